/- Walks, part 6: each function computes its model. -/
import Derived.Test.YtabamagholjdcaaGreatDoorQGHuP5
namespace Go.Proofs.YtabamagholjdcaaGreatDoor
open Go.Lg Go.Proofs
set_option maxRecDepth 100000
set_option maxHeartbeats 4000000
section
variable {B : Base} {main : Bool} {ah : Jd Tryz.prog B main} {R : aA} {H : ak}
theorem ayu (x0 : (List Int)) (x1 : Int) (x2 : Int) {v0 : Value} {cQ : ak} (dU : bg CZ 1 3 R v0 x0 cQ) {r : ((List Int) × Bool)} (hM : sQ x0 x1 x2 = some r) : aB ah 182 #[v0, iv x1, iv x2] R (cQ ++ H) (λ v R' H' => ∃ bF, (R = R' ∧ bg CZ 1 3 R' v0 r.1 bF ∧ v = .bool r.2) ∧ H' = bF ++ H) := by
 unfold sQ at hM
 refine aB.bk Tryz.func182 rfl (n := 133) rfl rfl λ fr cs hk => ?_
 refine sg aQ ?_
 refine vs 1 ?_
 refine nx aT ?_
 refine vs 3 ?_
 refine es ?_
 refine sg aQ ?_
 refine vs 1 ?_
 refine er ?_
 refine At.block ?_
 refine At.eR hM (λ (fS : ((List Int) × Int × Int)) R' H' st' => R = R' ∧ ∃ tL, bg CZ 1 3 R' v0 fS.1 tL ∧ H' = tL ++ (H) ∧ aF st' [(0, v0), (1, iv x1), (2, iv x2), (7, iv fS.2.1), (8, iv fS.2.2)]) (λ (KX : (List Int)) R' H' st' => R = R' ∧ ∃ Im, bg CZ 1 3 R' v0 KX Im ∧ H' = Im ++ (H) ∧ aF st' [(0, v0)]) 0 rfl ⟨rfl, cQ, dU, rfl, ay.sub ⟨rfl, rfl, rfl, rfl, rfl, trivial⟩⟩ ?_ ?_
 rotate_right
 ·rintro fS aGk aEo aPR ⟨rfl, tL, wE, rfl, ap6⟩ aRM hM Wp ah0 abg
  refine At.sub ap6 ?_
  refine sq ?_
  refine sg aR ?_
  refine vs 2 ?_
  refine er ?_
  refine sc hM (λ ar6 hM => ?_) (λ ar6 hM => ?_)
  ·refine sp ?_
   refine sq ?_
   refine At.block ?_
   refine sq ?_
   refine At.block ?_
   refine At.eI hM (λ (iD : Int) R' H' st' => R = R' ∧ H' = tL ++ (H) ∧ aF st' [(0, v0), (1, iv x1), (2, iv x2), (7, iv iD), (8, iv fS.2.2)]) (λ (gd : Int) R' H' st' => R = R' ∧ H' = tL ++ (H) ∧ aF st' [(0, v0), (1, iv x1), (2, iv x2), (7, iv gd), (8, iv fS.2.2)]) 2 rfl ⟨rfl, rfl, ay.sub ⟨rfl, rfl, rfl, rfl, rfl, trivial⟩⟩ ?_ ?_
   rotate_right
   ·rintro iD aGx aED aQi ⟨rfl, rfl, aqx⟩ aRN hM afs Yc
    refine At.sub aqx ?_
    refine sq ?_
    refine sq ?_
    refine At.dw abJ mixed ?_
    refine Any.vs 4 [0, 1, 2, 3] rfl ?_
    refine bA hM (λ RL hM => ?_) (λ RL hM => ?_)
    ·refine Any.known (t := 20) rfl RL ?_
     refine Any.vs 2 [4, 5] rfl ?_
     obtain ⟨Bo, avz, hM⟩ := aj hM
     obtain ⟨Bp, avA, hM⟩ := aj hM
     obtain ⟨DN, avB, hM⟩ := aj hM
     obtain ⟨aJZ, aOB, _, rfl, akB, ank⟩ := (wE.rd (λ _ h => (List.mem_append_left _ h))).elem bm avz
     refine Any.tk 6 rfl pp (λ R' H' hR hS => Ox.aX rfl rfl rfl ank rfl (.one rfl) ⟨rfl, rfl, rfl⟩) ?_
     refine Any.tk 7 rfl pp (λ R' H' hR hS => Ox.bu rfl rfl aV (((akB.le hR).sub (λ p h => hS p (pp p h))).one (j := 0) rfl) rfl (.one rfl) ⟨rfl, rfl, rfl⟩) ?_
     refine Any.vs 3 [8, 9, 10] rfl ?_
     obtain ⟨aJ0, aOC, _, rfl, akC, anl⟩ := (wE.rd (λ _ h => (List.mem_append_left _ h))).elem bm avA
     refine Any.tk 11 rfl pp (λ R' H' hR hS => Ox.aX rfl rfl rfl anl rfl (.one rfl) ⟨rfl, rfl, rfl⟩) ?_
     refine Any.tk 12 rfl pp (λ R' H' hR hS => Ox.bu rfl rfl aV (((akC.le hR).sub (λ p h => hS p (pp p h))).one (j := 0) rfl) rfl (.one rfl) ⟨rfl, rfl, rfl⟩) ?_
     refine Any.cv 13 nu (nF Bo Bp  avB) ?_
     rintro _ _ _ ⟨rfl, rfl, rfl⟩
     refine kp ?_
     refine Any.vs 2 [14, 15] rfl ?_
     refine Any.done ?_
     refine sc hM (λ ar8 hM => ?_) (λ ar8 hM => ?_)
     ·refine sp ?_
      refine At.block ?_
      refine At.rg aT ?_
      refine vs 3 ?_
      refine er ?_
      refine At.inBlock ?_
      exact afs _ (aa hM).symm _ _ _ ⟨rfl, rfl, ay.sub ⟨rfl, rfl, rfl, rfl, rfl, trivial⟩⟩
     exact At.exit rfl (Yc _ (aa hM).symm _ _ _ ⟨rfl, rfl, ay.sub ⟨rfl, rfl, rfl, rfl, rfl, trivial⟩⟩)
    refine Any.known (t := 20) rfl RL ?_
    refine Any.vs 12 [4, 5, 6, 7, 8, 9, 10, 11, 12, 13, 14, 15] rfl ?_
    refine Any.done ?_
    refine At.cond_false rfl ?_
    exact At.exit rfl (Yc _ (aa hM).symm _ _ _ ⟨rfl, rfl, ay.sub ⟨rfl, rfl, rfl, rfl, rfl, trivial⟩⟩)
   rintro gd aGy aEE aQj ⟨rfl, rfl, aqy⟩ hM
   refine At.sub aqy ?_
   refine sq ?_
   refine sg aT ?_
   refine vs 3 ?_
   refine er ?_
   refine sc hM (λ ar9 hM => ?_) (λ ar9 hM => ?_)
   ·refine sg aQ ?_
    refine vs 1 ?_
    refine er ?_
    replace hM := abg _ (aa hM).symm
    obtain rfl := aa hM
    exact rt Tryz.func182 (.tmp rfl .nil) sr (hk _ _ _ ⟨tL, ⟨rfl, wE, rfl⟩, rfl⟩)
   refine sp ?_
   refine sq ?_
   refine sg bw ?_
   refine vs 4 ?_
   refine er ?_
   refine sc hM (λ asa hM => ?_) (λ asa hM => ?_)
   ·refine sg aQ ?_
    refine vs 1 ?_
    refine er ?_
    replace hM := abg _ (aa hM).symm
    obtain rfl := aa hM
    exact rt Tryz.func182 (.tmp rfl .nil) sr (hk _ _ _ ⟨tL, ⟨rfl, wE, rfl⟩, rfl⟩)
   refine sp ?_
   refine sq ?_
   refine At.draw (n := 18) (is := [0, 1, 2, 3, 4, 5, 6, 7, 8, 9, 10, 11, 12, 13, 14, 15, 16, 17]) (many (tL ++ (H)) [(15, H), (17, H)]) mixed rfl (by decide +kernel) rfl rfl ?_
   refine Any.vs 8 [0, 1, 2, 3, 4, 5, 6, 7] rfl ?_
   obtain ⟨HP, avC, hM⟩ := aj hM
   obtain ⟨Ma, avD, hM⟩ := aj hM
   obtain ⟨adf, avE, hM⟩ := aj hM
   obtain ⟨adg, avF, hM⟩ := aj hM
   obtain ⟨aJ1, aOD, _, rfl, akD, anm⟩ := (wE.rd (λ _ h => (List.mem_append_left _ h))).elem bm avC
   refine ts 8 [9, 14, 15, 16, 17] rfl (aN rfl (aN rfl (bf (su (aH sr))))) (su (aH sr)) (λ R' H' hR hS => Ox.aX rfl rfl rfl anm rfl (.one rfl) ⟨rfl, rfl, rfl⟩) ?_
   refine ts 9 [14, 15, 16, 17] rfl (aN rfl (aN rfl (bf pp))) pp (λ R' H' hR hS => Ox.bu rfl rfl aV (((akD.le hR).sub (λ p h => hS p (pp p h))).one (j := 0) rfl) rfl (.one rfl) ⟨rfl, rfl, rfl⟩) ?_
   refine Any.vs 2 [10, 11] rfl ?_
   obtain ⟨aJ2, aOE, _, rfl, akE, ann⟩ := (wE.rd (λ _ h => (List.mem_append_left _ h))).elem bm avD
   refine ts 12 [13, 14, 15, 16, 17] rfl (aN rfl (aN rfl (bf (su (aH sr))))) (su (aH sr)) (λ R' H' hR hS => Ox.aX rfl rfl rfl ann rfl (.one rfl) ⟨rfl, rfl, rfl⟩) ?_
   refine ts 13 [14, 15, 16, 17] rfl (aN rfl (aN rfl (bf pp))) pp (λ R' H' hR hS => Ox.bu rfl rfl aV (((akE.le hR).sub (λ p h => hS p (pp p h))).one (j := 0) rfl) rfl (.one rfl) ⟨rfl, rfl, rfl⟩) ?_
   obtain ⟨aJ3, aKO, _, rfl, rfl, aLE, alE, ano, aMh, awf, asM⟩ := wE.eu bm avE
   refine ts 14 [15, 16, 17] rfl (aN rfl (aN rfl (bf (su (so sr))))) (su (so sr)) (λ R' H' hR hS => Ox.aX rfl rfl rfl ano rfl (.one rfl) ⟨rfl, rfl, rfl⟩) ?_
   refine Any.on 15 rfl rfl (aP.to (Ox.eC (K := CZ) (k := 1) (e := 3) (i := gd) (x' := HP) (pre := []) (mid := [iv adf]) (post := []) .id rfl rfl rfl rfl eV rfl (aq rfl aW) alE rfl rfl rfl awf asM rfl rfl (.refl _) λ aFb aox => ⟨rr, (bL rfl (su (aH sr))), ?_⟩))
   obtain ⟨aJ4, aKP, _, rfl, rfl, aLF, alF, anp, aMi, awg, asN⟩ := aox.eu bm avF
   refine ts 16 [17] rfl (aN rfl (aN rfl (bf (su (so sr))))) (su (so sr)) (λ R' H' hR hS => Ox.aX rfl rfl rfl anp rfl (.one rfl) ⟨rfl, rfl, rfl⟩) ?_
   refine Any.on 17 rfl rfl (aP.to (Ox.eC (K := CZ) (k := 1) (e := 3) (i := i64 (gd - 1)) (x' := Ma) (pre := []) (mid := [iv adg]) (post := []) .id rfl rfl rfl rfl eV rfl (aq rfl aW) alF rfl rfl rfl awg asN rfl rfl (.refl _) λ VJ Zq => ⟨rr, (bL rfl (su (aH sr))), ?_⟩))
   refine Any.done ?_
   refine sq ?_
   refine sg bw ?_
   refine vs 4 ?_
   refine er ?_
   refine At.eZ hM (λ (G7 : (List Int)) R' H' st' => R = R' ∧ ∃ Eb, bg CZ 1 3 R' v0 G7 Eb ∧ H' = Eb ++ (H) ∧ aF st' [(0, v0), (1, iv x1), (2, iv x2), (7, iv gd), (8, iv fS.2.2)])  ?_ ?_
   rotate_right
   ·intro aRO hM Yd
    refine sc hM (λ asc hM => ?_) (λ asc hM => ?_)
    ·refine sg aT ?_
     refine vs 3 ?_
     refine er ?_
     refine At.block ?_
     refine At.eI hM (λ (c7 : ((List Int) × Int)) R' H' st' => R = R' ∧ ∃ BD, bg CZ 1 3 R' v0 c7.1 BD ∧ H' = BD ++ (H) ∧ aF st' [(0, v0), (1, iv x1), (2, iv x2), (7, iv gd), (8, iv fS.2.2), (9, iv c7.2)]) (λ (Da : (List Int)) R' H' st' => R = R' ∧ ∃ Is, bg CZ 1 3 R' v0 Da Is ∧ H' = Is ++ (H) ∧ aF st' [(0, v0), (1, iv x1), (2, iv x2), (7, iv gd), (8, iv fS.2.2)]) 4 rfl ⟨rfl, VJ, Zq, rfl, ay.sub ⟨rfl, rfl, rfl, rfl, rfl, rfl, trivial⟩⟩ ?_ ?_
     rotate_right
     ·rintro c7 aGB aEH aQn ⟨rfl, BD, zl, rfl, aqC⟩ aRP hM afu Ye
      refine At.sub aqC ?_
      refine sq ?_
      refine sg aR ?_
      refine vs 2 ?_
      refine er ?_
      refine sc hM (λ aqV hM => ?_) (λ aqV hM => ?_)
      ·refine sp ?_
       refine sq ?_
       refine At.block ?_
       refine sq ?_
       refine sq ?_
       refine At.dw xK mixed ?_
       refine Any.vs 2 [0, 1] rfl ?_
       obtain ⟨HB, asO, hM⟩ := aj hM
       obtain ⟨HC, asP, hM⟩ := aj hM
       obtain ⟨LF, asQ, hM⟩ := aj hM
       obtain ⟨aIh, aNn, _, rfl, ajp, alG⟩ := (zl.rd (λ _ h => (List.mem_append_left _ h))).elem bm asO
       refine Any.tk 2 rfl pp (λ R' H' hR hS => Ox.aX rfl rfl rfl alG rfl (.one rfl) ⟨rfl, rfl, rfl⟩) ?_
       refine Any.tk 3 rfl pp (λ R' H' hR hS => Ox.bu rfl rfl aV (((ajp.le hR).sub (λ p h => hS p (pp p h))).one (j := 0) rfl) rfl (.one rfl) ⟨rfl, rfl, rfl⟩) ?_
       refine Any.vs 3 [4, 5, 6] rfl ?_
       obtain ⟨aIi, aNo, _, rfl, ajq, alH⟩ := (zl.rd (λ _ h => (List.mem_append_left _ h))).elem bm asP
       refine Any.tk 7 rfl pp (λ R' H' hR hS => Ox.aX rfl rfl rfl alH rfl (.one rfl) ⟨rfl, rfl, rfl⟩) ?_
       refine Any.tk 8 rfl pp (λ R' H' hR hS => Ox.bu rfl rfl aV (((ajq.le hR).sub (λ p h => hS p (pp p h))).one (j := 0) rfl) rfl (.one rfl) ⟨rfl, rfl, rfl⟩) ?_
       refine Any.cv 9 nu (nF HB HC  asQ) ?_
       rintro _ _ _ ⟨rfl, rfl, rfl⟩
       refine kp ?_
       refine Any.vs 1 [10] rfl ?_
       refine Any.done ?_
       refine sc hM (λ aqW hM => ?_) (λ aqW hM => ?_)
       ·exact At.exit rfl (Ye _ (aa hM).symm _ _ _ ⟨rfl, BD, zl, rfl, ay.sub ⟨rfl, rfl, rfl, rfl, rfl, trivial⟩⟩)
       refine sp ?_
       refine At.draw (n := 18) (is := [0, 1, 2, 3, 4, 5, 6, 7, 8, 9, 10, 11, 12, 13, 14, 15, 16, 17]) (many (BD ++ (H)) [(15, H), (17, H)]) mixed rfl (by decide +kernel) rfl rfl ?_
       refine Any.vs 8 [0, 1, 2, 3, 4, 5, 6, 7] rfl ?_
       obtain ⟨AY, asR, hM⟩ := aj hM
       obtain ⟨HD, asS, hM⟩ := aj hM
       obtain ⟨UB, asT, hM⟩ := aj hM
       obtain ⟨UD, asV, hM⟩ := aj hM
       obtain ⟨aIj, aNp, _, rfl, ajr, alI⟩ := (zl.rd (λ _ h => (List.mem_append_left _ h))).elem bm asR
       refine ts 8 [9, 14, 15, 16, 17] rfl (aN rfl (aN rfl (bf (su (aH sr))))) (su (aH sr)) (λ R' H' hR hS => Ox.aX rfl rfl rfl alI rfl (.one rfl) ⟨rfl, rfl, rfl⟩) ?_
       refine ts 9 [14, 15, 16, 17] rfl (aN rfl (aN rfl (bf pp))) pp (λ R' H' hR hS => Ox.bu rfl rfl aV (((ajr.le hR).sub (λ p h => hS p (pp p h))).one (j := 0) rfl) rfl (.one rfl) ⟨rfl, rfl, rfl⟩) ?_
       refine Any.vs 2 [10, 11] rfl ?_
       obtain ⟨aIk, aNq, _, rfl, ajs, alJ⟩ := (zl.rd (λ _ h => (List.mem_append_left _ h))).elem bm asS
       refine ts 12 [13, 14, 15, 16, 17] rfl (aN rfl (aN rfl (bf (su (aH sr))))) (su (aH sr)) (λ R' H' hR hS => Ox.aX rfl rfl rfl alJ rfl (.one rfl) ⟨rfl, rfl, rfl⟩) ?_
       refine ts 13 [14, 15, 16, 17] rfl (aN rfl (aN rfl (bf pp))) pp (λ R' H' hR hS => Ox.bu rfl rfl aV (((ajs.le hR).sub (λ p h => hS p (pp p h))).one (j := 0) rfl) rfl (.one rfl) ⟨rfl, rfl, rfl⟩) ?_
       obtain ⟨aIl, aKk, _, rfl, rfl, aLb, ak8, alK, aLN, avL, ash⟩ := zl.eu bm asT
       refine ts 14 [15, 16, 17] rfl (aN rfl (aN rfl (bf (su (so sr))))) (su (so sr)) (λ R' H' hR hS => Ox.aX rfl rfl rfl alK rfl (.one rfl) ⟨rfl, rfl, rfl⟩) ?_
       refine Any.on 15 rfl rfl (aP.to (Ox.eC (K := CZ) (k := 1) (e := 3) (i := c7.2) (x' := AY) (pre := []) (mid := [iv UB]) (post := []) .id rfl rfl rfl rfl eV rfl (aq rfl aW) ak8 rfl rfl rfl avL ash rfl rfl (.refl _) λ aEW an5 => ⟨rr, (bL rfl (su (aH sr))), ?_⟩))
       obtain ⟨aIm, aKl, _, rfl, rfl, aLc, ak9, alL, aLO, avM, asi⟩ := an5.eu bm asV
       refine ts 16 [17] rfl (aN rfl (aN rfl (bf (su (so sr))))) (su (so sr)) (λ R' H' hR hS => Ox.aX rfl rfl rfl alL rfl (.one rfl) ⟨rfl, rfl, rfl⟩) ?_
       refine Any.on 17 rfl rfl (aP.to (Ox.eC (K := CZ) (k := 1) (e := 3) (i := i64 (c7.2 - 1)) (x' := HD) (pre := []) (mid := [iv UD]) (post := []) .id rfl rfl rfl rfl eV rfl (aq rfl aW) ak9 rfl rfl rfl avM asi rfl rfl (.refl _) λ adT an6 => ⟨rr, (bL rfl (su (aH sr))), ?_⟩))
       refine Any.done ?_
       refine At.inBlock ?_
       refine At.rg aT ?_
       refine vs 3 ?_
       refine er ?_
       exact afu _ (aa hM).symm _ _ _ ⟨rfl, adT, an6, rfl, ay.sub ⟨rfl, rfl, rfl, rfl, rfl, rfl, trivial⟩⟩
      exact At.exit rfl (Ye _ (aa hM).symm _ _ _ ⟨rfl, BD, zl, rfl, ay.sub ⟨rfl, rfl, rfl, rfl, rfl, trivial⟩⟩)
     rintro Da aGC aEI aQo ⟨rfl, Is, an2, rfl, aqD⟩ hM
     refine At.sub aqD ?_
     exact Yd _ (aa hM).symm _ _ _ ⟨rfl, Is, an2, rfl, ay.sub ⟨rfl, rfl, rfl, rfl, rfl, trivial⟩⟩
    refine sp ?_
    exact Yd _ (aa hM).symm _ _ _ ⟨rfl, VJ, Zq, rfl, ay.sub ⟨rfl, rfl, rfl, rfl, rfl, trivial⟩⟩
   rintro G7 aGA aEG aQm ⟨rfl, Eb, Zn, rfl, aqB⟩ hM
   refine At.sub aqB ?_
   refine sg bw ?_
   refine vs 4 ?_
   refine er ?_
   refine sc hM (λ aqX hM => ?_) (λ aqX hM => ?_)
   ·refine sg aT ?_
    refine vs 3 ?_
    refine er ?_
    refine At.block ?_
    refine At.eI hM (λ (ct : ((List Int) × Int)) R' H' st' => R = R' ∧ ∃ BA, bg CZ 1 3 R' v0 ct.1 BA ∧ H' = BA ++ (H) ∧ aF st' [(0, v0), (1, iv x1), (2, iv x2), (7, iv gd), (8, iv fS.2.2), (10, iv ct.2)]) (λ (KO : (List Int)) R' H' st' => R = R' ∧ ∃ H8, bg CZ 1 3 R' v0 KO H8 ∧ H' = H8 ++ (H) ∧ aF st' [(0, v0), (1, iv x1), (2, iv x2), (7, iv gd), (8, iv fS.2.2)]) 6 rfl ⟨rfl, Eb, Zn, rfl, ay.sub ⟨rfl, rfl, rfl, rfl, rfl, rfl, trivial⟩⟩ ?_ ?_
    rotate_right
    ·rintro ct aFl aDo aOL ⟨rfl, BA, zg, rfl, aoZ⟩ aRx hM aeV XQ
     refine At.sub aoZ ?_
     refine sq ?_
     refine sg aT ?_
     refine vs 3 ?_
     refine er ?_
     refine sc hM (λ aqY hM => ?_) (λ aqY hM => ?_)
     ·refine sp ?_
      refine sq ?_
      refine At.block ?_
      refine sq ?_
      refine sq ?_
      refine At.dw xK mixed ?_
      refine Any.vs 2 [0, 1] rfl ?_
      obtain ⟨AZ, asX, hM⟩ := aj hM
      obtain ⟨A0, asY, hM⟩ := aj hM
      obtain ⟨Dy, asZ, hM⟩ := aj hM
      obtain ⟨aIp, aNs, _, rfl, aju, alO⟩ := (zg.rd (λ _ h => (List.mem_append_left _ h))).elem bm asX
      refine Any.tk 2 rfl pp (λ R' H' hR hS => Ox.aX rfl rfl rfl alO rfl (.one rfl) ⟨rfl, rfl, rfl⟩) ?_
      refine Any.tk 3 rfl pp (λ R' H' hR hS => Ox.bu rfl rfl aV (((aju.le hR).sub (λ p h => hS p (pp p h))).one (j := 0) rfl) rfl (.one rfl) ⟨rfl, rfl, rfl⟩) ?_
      refine Any.vs 3 [4, 5, 6] rfl ?_
      obtain ⟨aIq, aNt, _, rfl, ajv, alP⟩ := (zg.rd (λ _ h => (List.mem_append_left _ h))).elem bm asY
      refine Any.tk 7 rfl pp (λ R' H' hR hS => Ox.aX rfl rfl rfl alP rfl (.one rfl) ⟨rfl, rfl, rfl⟩) ?_
      refine Any.tk 8 rfl pp (λ R' H' hR hS => Ox.bu rfl rfl aV (((ajv.le hR).sub (λ p h => hS p (pp p h))).one (j := 0) rfl) rfl (.one rfl) ⟨rfl, rfl, rfl⟩) ?_
      refine Any.cv 9 nu (nF AZ A0  asZ) ?_
      rintro _ _ _ ⟨rfl, rfl, rfl⟩
      refine kp ?_
      refine Any.vs 1 [10] rfl ?_
      refine Any.done ?_
      refine sc hM (λ aqZ hM => ?_) (λ aqZ hM => ?_)
      ·exact At.exit rfl (XQ _ (aa hM).symm _ _ _ ⟨rfl, BA, zg, rfl, ay.sub ⟨rfl, rfl, rfl, rfl, rfl, trivial⟩⟩)
      refine sp ?_
      refine At.draw (n := 18) (is := [0, 1, 2, 3, 4, 5, 6, 7, 8, 9, 10, 11, 12, 13, 14, 15, 16, 17]) (many (BA ++ (H)) [(15, H), (17, H)]) mixed rfl (by decide +kernel) rfl rfl ?_
      refine Any.vs 8 [0, 1, 2, 3, 4, 5, 6, 7] rfl ?_
      obtain ⟨tq, as0, hM⟩ := aj hM
      obtain ⟨A1, as1, hM⟩ := aj hM
      obtain ⟨LH, as2, hM⟩ := aj hM
      obtain ⟨LI, as3, hM⟩ := aj hM
      obtain ⟨aIs, aNu, _, rfl, ajw, alR⟩ := (zg.rd (λ _ h => (List.mem_append_left _ h))).elem bm as0
      refine ts 8 [9, 14, 15, 16, 17] rfl (aN rfl (aN rfl (bf (su (aH sr))))) (su (aH sr)) (λ R' H' hR hS => Ox.aX rfl rfl rfl alR rfl (.one rfl) ⟨rfl, rfl, rfl⟩) ?_
      refine ts 9 [14, 15, 16, 17] rfl (aN rfl (aN rfl (bf pp))) pp (λ R' H' hR hS => Ox.bu rfl rfl aV (((ajw.le hR).sub (λ p h => hS p (pp p h))).one (j := 0) rfl) rfl (.one rfl) ⟨rfl, rfl, rfl⟩) ?_
      refine Any.vs 2 [10, 11] rfl ?_
      obtain ⟨aIt, aNv, _, rfl, ajx, alS⟩ := (zg.rd (λ _ h => (List.mem_append_left _ h))).elem bm as1
      refine ts 12 [13, 14, 15, 16, 17] rfl (aN rfl (aN rfl (bf (su (aH sr))))) (su (aH sr)) (λ R' H' hR hS => Ox.aX rfl rfl rfl alS rfl (.one rfl) ⟨rfl, rfl, rfl⟩) ?_
      refine ts 13 [14, 15, 16, 17] rfl (aN rfl (aN rfl (bf pp))) pp (λ R' H' hR hS => Ox.bu rfl rfl aV (((ajx.le hR).sub (λ p h => hS p (pp p h))).one (j := 0) rfl) rfl (.one rfl) ⟨rfl, rfl, rfl⟩) ?_
      obtain ⟨aIu, aKo, _, rfl, rfl, aLf, alc, alT, aLR, avP, asm⟩ := zg.eu bm as2
      refine ts 14 [15, 16, 17] rfl (aN rfl (aN rfl (bf (su (so sr))))) (su (so sr)) (λ R' H' hR hS => Ox.aX rfl rfl rfl alT rfl (.one rfl) ⟨rfl, rfl, rfl⟩) ?_
      refine Any.on 15 rfl rfl (aP.to (Ox.eC (K := CZ) (k := 1) (e := 3) (i := ct.2) (x' := tq) (pre := []) (mid := [iv LH]) (post := []) .id rfl rfl rfl rfl eV rfl (aq rfl aW) alc rfl rfl rfl avP asm rfl rfl (.refl _) λ aEX an8 => ⟨rr, (bL rfl (su (aH sr))), ?_⟩))
      obtain ⟨aIv, aKp, _, rfl, rfl, aLg, ald, alU, aLS, avQ, asn⟩ := an8.eu bm as3
      refine ts 16 [17] rfl (aN rfl (aN rfl (bf (su (so sr))))) (su (so sr)) (λ R' H' hR hS => Ox.aX rfl rfl rfl alU rfl (.one rfl) ⟨rfl, rfl, rfl⟩) ?_
      refine Any.on 17 rfl rfl (aP.to (Ox.eC (K := CZ) (k := 1) (e := 3) (i := i64 (ct.2 - 1)) (x' := A1) (pre := []) (mid := [iv LI]) (post := []) .id rfl rfl rfl rfl eV rfl (aq rfl aW) ald rfl rfl rfl avQ asn rfl rfl (.refl _) λ adV an9 => ⟨rr, (bL rfl (su (aH sr))), ?_⟩))
      refine Any.done ?_
      refine At.inBlock ?_
      refine At.rg aT ?_
      refine vs 3 ?_
      refine er ?_
      exact aeV _ (aa hM).symm _ _ _ ⟨rfl, adV, an9, rfl, ay.sub ⟨rfl, rfl, rfl, rfl, rfl, rfl, trivial⟩⟩
     exact At.exit rfl (XQ _ (aa hM).symm _ _ _ ⟨rfl, BA, zg, rfl, ay.sub ⟨rfl, rfl, rfl, rfl, rfl, trivial⟩⟩)
    rintro KO aFm aDp aOM ⟨rfl, H8, anN, rfl, ao0⟩ hM
    refine At.sub ao0 ?_
    refine At.inBlock ?_
    refine At.rg aT ?_
    refine vs 3 ?_
    refine er ?_
    exact Wp _ (aa hM).symm _ _ _ ⟨rfl, H8, anN, rfl, ay.sub ⟨rfl, rfl, rfl, rfl, rfl, trivial⟩⟩
   refine sp ?_
   refine At.inBlock ?_
   refine At.rg aT ?_
   refine vs 3 ?_
   refine er ?_
   exact Wp _ (aa hM).symm _ _ _ ⟨rfl, Eb, Zn, rfl, ay.sub ⟨rfl, rfl, rfl, rfl, rfl, trivial⟩⟩
  exact At.exit rfl (ah0 _ (aa hM).symm _ _ _ ⟨rfl, tL, wE, rfl, ay.sub ⟨rfl, trivial⟩⟩)
 rintro KX aGl aEp aPS ⟨rfl, Im, anX, rfl, ap7⟩ hM
 refine At.sub ap7 ?_
 refine sg aQ ?_
 refine vs 1 ?_
 refine er ?_
 obtain rfl := aa hM
 exact rt Tryz.func182 (.tmp rfl .nil) sr (hk _ _ _ ⟨Im, ⟨rfl, anX, rfl⟩, rfl⟩)
theorem ayw (x0 : (List Int)) (x1 : Int) (x2 : Int) (x3 : Int) {v0 : Value} {cQ : ak} (dU : bg CZ 1 3 R v0 x0 cQ) {r : ((List Int) × Int)} (hM : xx x0 x1 x2 x3 = some r) : aB ah 184 #[v0, iv x1, iv x2, iv x3] R (cQ ++ H) (λ v R' H' => ∃ bF, (R = R' ∧ bg CZ 1 3 R' v0 r.1 bF ∧ v = iv r.2) ∧ H' = bF ++ H) := by
 unfold xx at hM
 refine aB.bk Tryz.func184 rfl (n := 84) rfl rfl λ fr cs hk => ?_
 refine sg aQ ?_
 refine vs 1 ?_
 refine es ?_
 refine At.draw (n := 16) (is := [0, 1, 2, 3, 4, 5, 6, 7, 8, 9, 10, 11, 12, 13, 14, 15]) (many (cQ ++ (H)) [(13, H), (15, H)]) mixed rfl (by decide +kernel) rfl rfl ?_
 refine Any.vs 6 [0, 1, 2, 3, 4, 5] rfl ?_
 obtain ⟨LM, ati, hM⟩ := aj hM
 obtain ⟨gL, F4, hM⟩ := aj hM
 obtain ⟨A4, RY, hM⟩ := aj hM
 obtain ⟨acV, atk, hM⟩ := aj hM
 obtain ⟨aIG, aNF, _, rfl, ajG, al5⟩ := (dU.rd (λ _ h => (List.mem_append_left _ h))).elem bm ati
 refine ts 6 [7, 12, 13, 14, 15] rfl (aN rfl (aN rfl (bf (su (aH sr))))) (su (aH sr)) (λ R' H' hR hS => Ox.aX rfl rfl rfl al5 rfl (.one rfl) ⟨rfl, rfl, rfl⟩) ?_
 refine ts 7 [12, 13, 14, 15] rfl (aN rfl (aN rfl (bf pp))) pp (λ R' H' hR hS => Ox.bu rfl rfl aV (((ajG.le hR).sub (λ p h => hS p (pp p h))).one (j := 0) rfl) rfl (.one rfl) ⟨rfl, rfl, rfl⟩) ?_
 refine Any.vs 2 [8, 9] rfl ?_
 obtain ⟨WJ, abn, _, rfl, E3, E7⟩ := (dU.rd (λ _ h => (List.mem_append_left _ h))).elem bm F4
 refine ts 10 [11, 12, 13, 14, 15] rfl (aN rfl (aN rfl (bf (su (aH sr))))) (su (aH sr)) (λ R' H' hR hS => Ox.aX rfl rfl rfl E7 rfl (.one rfl) ⟨rfl, rfl, rfl⟩) ?_
 refine ts 11 [12, 13, 14, 15] rfl (aN rfl (aN rfl (bf pp))) pp (λ R' H' hR hS => Ox.bu rfl rfl aV (((E3.le hR).sub (λ p h => hS p (pp p h))).one (j := 0) rfl) rfl (.one rfl) ⟨rfl, rfl, rfl⟩) ?_
 obtain ⟨aIH, aKt, _, rfl, rfl, aLj, alh, al6, aLW, avU, asr⟩ := dU.eu bm RY
 refine ts 12 [13, 14, 15] rfl (aN rfl (aN rfl (bf (su (so sr))))) (su (so sr)) (λ R' H' hR hS => Ox.aX rfl rfl rfl al6 rfl (.one rfl) ⟨rfl, rfl, rfl⟩) ?_
 refine Any.on 13 rfl rfl (aP.to (Ox.eC (K := CZ) (k := 1) (e := 3) (i := x1) (x' := LM) (pre := []) (mid := [iv A4]) (post := []) .id rfl rfl rfl rfl eV rfl (aq rfl aW) alh rfl rfl rfl avU asr rfl rfl (.refl _) λ aE1 aoe => ⟨rr, (bL rfl (su (aH sr))), ?_⟩))
 obtain ⟨aII, aKu, _, rfl, rfl, aLk, ali, al7, aLX, avV, ass⟩ := aoe.eu bm atk
 refine ts 14 [15] rfl (aN rfl (aN rfl (bf (su (so sr))))) (su (so sr)) (λ R' H' hR hS => Ox.aX rfl rfl rfl al7 rfl (.one rfl) ⟨rfl, rfl, rfl⟩) ?_
 refine Any.on 15 rfl rfl (aP.to (Ox.eC (K := CZ) (k := 1) (e := 3) (i := x3) (x' := gL) (pre := []) (mid := [iv acV]) (post := []) .id rfl rfl rfl rfl eV rfl (aq rfl aW) ali rfl rfl rfl avV ass rfl rfl (.refl _) λ adX aof => ⟨rr, (bL rfl (su (aH sr))), ?_⟩))
 refine Any.done ?_
 refine sg c6 ?_
 refine vs 6 ?_
 refine es ?_
 refine At.block ?_
 refine At.eI hM (λ (eA : ((List Int) × Int × Int)) R' H' st' => R = R' ∧ ∃ tJ, bg CZ 1 3 R' v0 eA.1 tJ ∧ H' = tJ ++ (H) ∧ aF st' [(0, v0), (1, iv x1), (9, iv eA.2.1), (10, iv eA.2.2)]) (λ (tH : ((List Int) × Int)) R' H' st' => R = R' ∧ ∃ Ib, bg CZ 1 3 R' v0 tH.1 Ib ∧ H' = Ib ++ (H) ∧ aF st' [(0, v0), (9, iv tH.2)]) 0 rfl ⟨rfl, adX, aof, rfl, ay.sub ⟨rfl, rfl, rfl, rfl, trivial⟩⟩ ?_ ?_
 rotate_right
 ·rintro eA aey aC0 aDl ⟨rfl, tJ, wC, rfl, ZH⟩ aDn hM Wj XU
  refine At.sub ZH ?_
  refine At.block ?_
  refine sq ?_
  refine At.block ?_
  refine At.eI hM (λ (xQ : Int) R' H' st' => R = R' ∧ H' = tJ ++ (H) ∧ aF st' [(0, v0), (1, iv x1), (9, iv xQ), (10, iv eA.2.2)]) (λ (nK : Int) R' H' st' => R = R' ∧ H' = tJ ++ (H) ∧ aF st' [(0, v0), (1, iv x1), (9, iv nK), (10, iv eA.2.2)]) 2 rfl ⟨rfl, rfl, ay.sub ⟨rfl, rfl, rfl, rfl, trivial⟩⟩ ?_ ?_
  rotate_right
  ·rintro xQ aFP aDS aPh ⟨rfl, rfl, apw⟩ aRE hM ae7 XZ
   refine At.sub apw ?_
   refine sq ?_
   refine sq ?_
   refine At.dw xL mixed ?_
   refine Any.vs 4 [0, 1, 2, 3] rfl ?_
   refine bA hM (λ QX hM => ?_) (λ QX hM => ?_)
   ·refine Any.known (t := 32) rfl QX ?_
    refine Any.vs 2 [4, 5] rfl ?_
    obtain ⟨Dz, Sk, hM⟩ := aj hM
    obtain ⟨ye, Sl, hM⟩ := aj hM
    obtain ⟨LS, Ke, hM⟩ := aj hM
    obtain ⟨afX, aN1, _, rfl, Y7, Pw⟩ := (wC.rd (λ _ h => (List.mem_append_left _ h))).elem bm Sk
    refine Any.tk 6 rfl pp (λ R' H' hR hS => Ox.aX rfl rfl rfl Pw rfl (.one rfl) ⟨rfl, rfl, rfl⟩) ?_
    refine Any.tk 7 rfl pp (λ R' H' hR hS => Ox.bu rfl rfl aV (((Y7.le hR).sub (λ p h => hS p (pp p h))).one (j := 0) rfl) rfl (.one rfl) ⟨rfl, rfl, rfl⟩) ?_
    refine Any.vs 2 [8, 9] rfl ?_
    obtain ⟨aI8, aN2, _, rfl, aj2, amy⟩ := (wC.rd (λ _ h => (List.mem_append_left _ h))).elem bm Sl
    refine Any.tk 10 rfl pp (λ R' H' hR hS => Ox.aX rfl rfl rfl amy rfl (.one rfl) ⟨rfl, rfl, rfl⟩) ?_
    refine Any.tk 11 rfl pp (λ R' H' hR hS => Ox.bu rfl rfl aV (((aj2.le hR).sub (λ p h => hS p (pp p h))).one (j := 0) rfl) rfl (.one rfl) ⟨rfl, rfl, rfl⟩) ?_
    refine Any.cv 12 nu (nF Dz ye  Ke) ?_
    rintro _ _ _ ⟨rfl, rfl, rfl⟩
    refine kp ?_
    refine Any.vs 2 [13, 14] rfl ?_
    refine Any.done ?_
    refine sc hM (λ QY hM => ?_) (λ QY hM => ?_)
    ·refine sp ?_
     refine At.block ?_
     refine At.rg aT ?_
     refine vs 3 ?_
     refine er ?_
     refine At.inBlock ?_
     exact ae7 _ (aa hM).symm _ _ _ ⟨rfl, rfl, ay.sub ⟨rfl, rfl, rfl, rfl, trivial⟩⟩
    exact At.exit rfl (XZ _ (aa hM).symm _ _ _ ⟨rfl, rfl, ay.sub ⟨rfl, rfl, rfl, rfl, trivial⟩⟩)
   refine Any.known (t := 32) rfl QX ?_
   refine Any.vs 11 [4, 5, 6, 7, 8, 9, 10, 11, 12, 13, 14] rfl ?_
   refine Any.done ?_
   refine At.cond_false rfl ?_
   exact At.exit rfl (XZ _ (aa hM).symm _ _ _ ⟨rfl, rfl, ay.sub ⟨rfl, rfl, rfl, rfl, trivial⟩⟩)
  rintro nK aFQ aDT aPi ⟨rfl, rfl, apx⟩ hM
  refine At.sub apx ?_
  refine sq ?_
  refine At.block ?_
  refine At.eI hM (λ (xR : Int) R' H' st' => R = R' ∧ H' = tJ ++ (H) ∧ aF st' [(0, v0), (1, iv x1), (9, iv nK), (10, iv xR)]) (λ (uZ : Int) R' H' st' => R = R' ∧ H' = tJ ++ (H) ∧ aF st' [(0, v0), (1, iv x1), (9, iv nK), (10, iv uZ)]) 4 rfl ⟨rfl, rfl, ay.sub ⟨rfl, rfl, rfl, rfl, trivial⟩⟩ ?_ ?_
  rotate_right
  ·rintro xR aFU aDX aPm ⟨rfl, rfl, apB⟩ UQ hM ae8 X2
   refine At.sub apB ?_
   refine sq ?_
   refine sq ?_
   refine At.dw qR mixed ?_
   refine Any.vs 4 [0, 1, 2, 3] rfl ?_
   refine bA hM (λ Q1 hM => ?_) (λ Q1 hM => ?_)
   ·refine Any.known (t := 49) rfl Q1 ?_
    refine Any.vs 2 [4, 5] rfl ?_
    obtain ⟨rj, Ss, hM⟩ := aj hM
    obtain ⟨HL, at3, hM⟩ := aj hM
    obtain ⟨ac6, at4, hM⟩ := aj hM
    obtain ⟨aJh, aN7, _, rfl, aj7, amH⟩ := (wC.rd (λ _ h => (List.mem_append_left _ h))).elem bm Ss
    refine Any.tk 6 rfl pp (λ R' H' hR hS => Ox.aX rfl rfl rfl amH rfl (.one rfl) ⟨rfl, rfl, rfl⟩) ?_
    refine Any.tk 7 rfl pp (λ R' H' hR hS => Ox.bu rfl rfl aV (((aj7.le hR).sub (λ p h => hS p (pp p h))).one (j := 0) rfl) rfl (.one rfl) ⟨rfl, rfl, rfl⟩) ?_
    refine Any.vs 2 [8, 9] rfl ?_
    obtain ⟨aJi, aN8, _, rfl, aj8, amI⟩ := (wC.rd (λ _ h => (List.mem_append_left _ h))).elem bm at3
    refine Any.tk 10 rfl pp (λ R' H' hR hS => Ox.aX rfl rfl rfl amI rfl (.one rfl) ⟨rfl, rfl, rfl⟩) ?_
    refine Any.tk 11 rfl pp (λ R' H' hR hS => Ox.bu rfl rfl aV (((aj8.le hR).sub (λ p h => hS p (pp p h))).one (j := 0) rfl) rfl (.one rfl) ⟨rfl, rfl, rfl⟩) ?_
    refine Any.cv 12 nu (nF rj HL  at4) ?_
    rintro _ _ _ ⟨rfl, rfl, rfl⟩
    refine kp ?_
    refine Any.vs 1 [13] rfl ?_
    refine Any.done ?_
    refine sc hM (λ arx hM => ?_) (λ arx hM => ?_)
    ·refine sp ?_
     refine At.block ?_
     refine At.rg aT ?_
     refine vs 3 ?_
     refine er ?_
     refine At.inBlock ?_
     exact ae8 _ (aa hM).symm _ _ _ ⟨rfl, rfl, ay.sub ⟨rfl, rfl, rfl, rfl, trivial⟩⟩
    exact At.exit rfl (X2 _ (aa hM).symm _ _ _ ⟨rfl, rfl, ay.sub ⟨rfl, rfl, rfl, rfl, trivial⟩⟩)
   refine Any.known (t := 49) rfl Q1 ?_
   refine Any.vs 10 [4, 5, 6, 7, 8, 9, 10, 11, 12, 13] rfl ?_
   refine Any.done ?_
   refine At.cond_false rfl ?_
   exact At.exit rfl (X2 _ (aa hM).symm _ _ _ ⟨rfl, rfl, ay.sub ⟨rfl, rfl, rfl, rfl, trivial⟩⟩)
  rintro uZ aFV aDY aPn ⟨rfl, rfl, apC⟩ hM
  refine At.sub apC ?_
  refine sq ?_
  refine sg aT ?_
  refine vs 3 ?_
  refine er ?_
  refine sc hM (λ ary hM => ?_) (λ ary hM => ?_)
  ·exact At.exit rfl (XU _ (aa hM).symm _ _ _ ⟨rfl, tJ, wC, rfl, ay.sub ⟨rfl, rfl, trivial⟩⟩)
  refine sp ?_
  refine sq ?_
  refine At.draw (n := 16) (is := [0, 1, 2, 3, 4, 5, 6, 7, 8, 9, 10, 11, 12, 13, 14, 15]) (many (tJ ++ (H)) [(13, H), (15, H)]) mixed rfl (by decide +kernel) rfl rfl ?_
  refine Any.vs 6 [0, 1, 2, 3, 4, 5] rfl ?_
  obtain ⟨LU, at5, hM⟩ := aj hM
  obtain ⟨US, at6, hM⟩ := aj hM
  obtain ⟨ac7, at7, hM⟩ := aj hM
  obtain ⟨ac8, aua, hM⟩ := aj hM
  obtain ⟨aJj, aN9, _, rfl, aj9, amJ⟩ := (wC.rd (λ _ h => (List.mem_append_left _ h))).elem bm at5
  refine ts 6 [7, 12, 13, 14, 15] rfl (aN rfl (aN rfl (bf (su (aH sr))))) (su (aH sr)) (λ R' H' hR hS => Ox.aX rfl rfl rfl amJ rfl (.one rfl) ⟨rfl, rfl, rfl⟩) ?_
  refine ts 7 [12, 13, 14, 15] rfl (aN rfl (aN rfl (bf pp))) pp (λ R' H' hR hS => Ox.bu rfl rfl aV (((aj9.le hR).sub (λ p h => hS p (pp p h))).one (j := 0) rfl) rfl (.one rfl) ⟨rfl, rfl, rfl⟩) ?_
  refine Any.vs 2 [8, 9] rfl ?_
  obtain ⟨aJk, aOa, _, rfl, aka, amK⟩ := (wC.rd (λ _ h => (List.mem_append_left _ h))).elem bm at6
  refine ts 10 [11, 12, 13, 14, 15] rfl (aN rfl (aN rfl (bf (su (aH sr))))) (su (aH sr)) (λ R' H' hR hS => Ox.aX rfl rfl rfl amK rfl (.one rfl) ⟨rfl, rfl, rfl⟩) ?_
  refine ts 11 [12, 13, 14, 15] rfl (aN rfl (aN rfl (bf pp))) pp (λ R' H' hR hS => Ox.bu rfl rfl aV (((aka.le hR).sub (λ p h => hS p (pp p h))).one (j := 0) rfl) rfl (.one rfl) ⟨rfl, rfl, rfl⟩) ?_
  obtain ⟨aJl, aKE, _, rfl, rfl, aLv, alu, amL, aL7, av5, asC⟩ := wC.eu bm at7
  refine ts 12 [13, 14, 15] rfl (aN rfl (aN rfl (bf (su (so sr))))) (su (so sr)) (λ R' H' hR hS => Ox.aX rfl rfl rfl amL rfl (.one rfl) ⟨rfl, rfl, rfl⟩) ?_
  refine Any.on 13 rfl rfl (aP.to (Ox.eC (K := CZ) (k := 1) (e := 3) (i := nK) (x' := LU) (pre := []) (mid := [iv ac7]) (post := []) .id rfl rfl rfl rfl eV rfl (aq rfl aW) alu rfl rfl rfl av5 asC rfl rfl (.refl _) λ aE6 aoo => ⟨rr, (bL rfl (su (aH sr))), ?_⟩))
  obtain ⟨aJm, aKF, _, rfl, rfl, aLw, alv, amM, aL8, av6, asD⟩ := aoo.eu bm aua
  refine ts 14 [15] rfl (aN rfl (aN rfl (bf (su (so sr))))) (su (so sr)) (λ R' H' hR hS => Ox.aX rfl rfl rfl amM rfl (.one rfl) ⟨rfl, rfl, rfl⟩) ?_
  refine Any.on 15 rfl rfl (aP.to (Ox.eC (K := CZ) (k := 1) (e := 3) (i := uZ) (x' := US) (pre := []) (mid := [iv ac8]) (post := []) .id rfl rfl rfl rfl eV rfl (aq rfl aW) alv rfl rfl rfl av6 asD rfl rfl (.refl _) λ ad2 aop => ⟨rr, (bL rfl (su (aH sr))), ?_⟩))
  refine Any.done ?_
  refine sg aT ?_
  refine vs 3 ?_
  refine er ?_
  refine At.rg aT ?_
  refine vs 3 ?_
  refine er ?_
  refine At.inBlock ?_
  exact Wj _ (aa hM).symm _ _ _ ⟨rfl, ad2, aop, rfl, ay.sub ⟨rfl, rfl, rfl, rfl, trivial⟩⟩
 rintro tH aC3 aC1 aDm ⟨rfl, Ib, anP, rfl, ZI⟩ hM
 refine At.sub ZI ?_
 refine sg aR ?_
 refine vs 2 ?_
 refine er ?_
 obtain rfl := aa hM
 exact rt Tryz.func184 (.tmp rfl .nil) sr (hk _ _ _ ⟨Ib, ⟨rfl, anP, rfl⟩, rfl⟩)
theorem ayy (x0 : (List Int)) (x1 : Int) (x2 : Int) (x3 : Int) {v0 : Value} {cQ : ak} (dU : bg CZ 1 3 R v0 x0 cQ) {r : ((List Int) × Int × Bool)} (hM : xy x0 x1 x2 x3 = some r) : aB ah 185 #[v0, iv x1, iv x2, iv x3] R (cQ ++ H) (λ v R' H' => ∃ bF, (R = R' ∧ bg CZ 1 3 R' v0 r.1 bF ∧ v = .tuple #[iv r.2.1, .bool r.2.2]) ∧ H' = bF ++ H) := by
 unfold xy at hM
 refine aB.bk Tryz.func185 rfl (n := 168) rfl rfl λ fr cs hk => ?_
 refine sg aR ?_
 refine vs 2 ?_
 refine es ?_
 refine At.draw (n := 16) (is := [0, 1, 2, 3, 4, 5, 6, 7, 8, 9, 10, 11, 12, 13, 14, 15]) (many (cQ ++ (H)) [(13, H), (15, H)]) mixed rfl (by decide +kernel) rfl rfl ?_
 refine Any.vs 6 [0, 1, 2, 3, 4, 5] rfl ?_
 obtain ⟨jG, Sc, hM⟩ := aj hM
 obtain ⟨lV, atH, hM⟩ := aj hM
 obtain ⟨acY, atI, hM⟩ := aj hM
 obtain ⟨vw, Sd, hM⟩ := aj hM
 obtain ⟨aIR, aNM, _, rfl, ajN, amg⟩ := (dU.rd (λ _ h => (List.mem_append_left _ h))).elem bm Sc
 refine ts 6 [7, 12, 13, 14, 15] rfl (aN rfl (aN rfl (bf (su (aH sr))))) (su (aH sr)) (λ R' H' hR hS => Ox.aX rfl rfl rfl amg rfl (.one rfl) ⟨rfl, rfl, rfl⟩) ?_
 refine ts 7 [12, 13, 14, 15] rfl (aN rfl (aN rfl (bf pp))) pp (λ R' H' hR hS => Ox.bu rfl rfl aV (((ajN.le hR).sub (λ p h => hS p (pp p h))).one (j := 0) rfl) rfl (.one rfl) ⟨rfl, rfl, rfl⟩) ?_
 refine Any.vs 2 [8, 9] rfl ?_
 obtain ⟨aIS, aNN, _, rfl, ajO, amh⟩ := (dU.rd (λ _ h => (List.mem_append_left _ h))).elem bm atH
 refine ts 10 [11, 12, 13, 14, 15] rfl (aN rfl (aN rfl (bf (su (aH sr))))) (su (aH sr)) (λ R' H' hR hS => Ox.aX rfl rfl rfl amh rfl (.one rfl) ⟨rfl, rfl, rfl⟩) ?_
 refine ts 11 [12, 13, 14, 15] rfl (aN rfl (aN rfl (bf pp))) pp (λ R' H' hR hS => Ox.bu rfl rfl aV (((ajO.le hR).sub (λ p h => hS p (pp p h))).one (j := 0) rfl) rfl (.one rfl) ⟨rfl, rfl, rfl⟩) ?_
 obtain ⟨aIT, aKx, _, rfl, rfl, aLo, alm, ami, aL0, avY, asv⟩ := dU.eu bm atI
 refine ts 12 [13, 14, 15] rfl (aN rfl (aN rfl (bf (su (so sr))))) (su (so sr)) (λ R' H' hR hS => Ox.aX rfl rfl rfl ami rfl (.one rfl) ⟨rfl, rfl, rfl⟩) ?_
 refine Any.on 13 rfl rfl (aP.to (Ox.eC (K := CZ) (k := 1) (e := 3) (i := x1) (x' := jG) (pre := []) (mid := [iv acY]) (post := []) .id rfl rfl rfl rfl eV rfl (aq rfl aW) alm rfl rfl rfl avY asv rfl rfl (.refl _) λ aE3 aoi => ⟨rr, (bL rfl (su (aH sr))), ?_⟩))
 obtain ⟨aIU, aKy, _, rfl, rfl, aLp, aln, amj, aL1, avZ, asw⟩ := aoi.eu bm Sd
 refine ts 14 [15] rfl (aN rfl (aN rfl (bf (su (so sr))))) (su (so sr)) (λ R' H' hR hS => Ox.aX rfl rfl rfl amj rfl (.one rfl) ⟨rfl, rfl, rfl⟩) ?_
 refine Any.on 15 rfl rfl (aP.to (Ox.eC (K := CZ) (k := 1) (e := 3) (i := x3) (x' := lV) (pre := []) (mid := [iv vw]) (post := []) .id rfl rfl rfl rfl eV rfl (aq rfl aW) aln rfl rfl rfl avZ asw rfl rfl (.refl _) λ BE r6 => ⟨rr, (bL rfl (su (aH sr))), ?_⟩))
 refine Any.done ?_
 refine sg c6 ?_
 refine vs 6 ?_
 refine es ?_
 refine At.block ?_
 refine At.eI hM (λ (xO : Int) R' H' st' => R = R' ∧ H' = BE ++ (H) ∧ aF st' [(0, v0), (1, iv x1), (10, iv xO), (11, iv (i64 (x2 - 1)))]) (λ (oL : Int) R' H' st' => R = R' ∧ H' = BE ++ (H) ∧ aF st' [(0, v0), (1, iv x1), (10, iv oL), (11, iv (i64 (x2 - 1)))]) 0 rfl ⟨rfl, rfl, ay.sub ⟨rfl, rfl, rfl, rfl, trivial⟩⟩ ?_ ?_
 rotate_right
 ·rintro xO aFD aDG aO4 ⟨rfl, rfl, api⟩ Vx hM ae3 XX
  refine At.sub api ?_
  refine sq ?_
  refine sq ?_
  refine At.dw qR mixed ?_
  refine Any.vs 4 [0, 1, 2, 3] rfl ?_
  refine bA hM (λ QO hM => ?_) (λ QO hM => ?_)
  ·refine Any.known (t := 33) rfl QO ?_
   refine Any.vs 2 [4, 5] rfl ?_
   obtain ⟨UL, atK, hM⟩ := aj hM
   obtain ⟨UM, atL, hM⟩ := aj hM
   obtain ⟨ac0, atM, hM⟩ := aj hM
   obtain ⟨aIY, aNR, _, rfl, ajS, amn⟩ := (r6.rd (λ _ h => (List.mem_append_left _ h))).elem bm atK
   refine Any.tk 6 rfl pp (λ R' H' hR hS => Ox.aX rfl rfl rfl amn rfl (.one rfl) ⟨rfl, rfl, rfl⟩) ?_
   refine Any.tk 7 rfl pp (λ R' H' hR hS => Ox.bu rfl rfl aV (((ajS.le hR).sub (λ p h => hS p (pp p h))).one (j := 0) rfl) rfl (.one rfl) ⟨rfl, rfl, rfl⟩) ?_
   refine Any.vs 2 [8, 9] rfl ?_
   obtain ⟨aIZ, aNS, _, rfl, ajT, amo⟩ := (r6.rd (λ _ h => (List.mem_append_left _ h))).elem bm atL
   refine Any.tk 10 rfl pp (λ R' H' hR hS => Ox.aX rfl rfl rfl amo rfl (.one rfl) ⟨rfl, rfl, rfl⟩) ?_
   refine Any.tk 11 rfl pp (λ R' H' hR hS => Ox.bu rfl rfl aV (((ajT.le hR).sub (λ p h => hS p (pp p h))).one (j := 0) rfl) rfl (.one rfl) ⟨rfl, rfl, rfl⟩) ?_
   refine Any.cv 12 nu (nF UL UM  atM) ?_
   rintro _ _ _ ⟨rfl, rfl, rfl⟩
   refine kp ?_
   refine Any.vs 1 [13] rfl ?_
   refine Any.done ?_
   refine sc hM (λ arl hM => ?_) (λ arl hM => ?_)
   ·refine sp ?_
    refine At.block ?_
    refine At.rg aT ?_
    refine vs 3 ?_
    refine er ?_
    refine At.inBlock ?_
    exact ae3 _ (aa hM).symm _ _ _ ⟨rfl, rfl, ay.sub ⟨rfl, rfl, rfl, rfl, trivial⟩⟩
   exact At.exit rfl (XX _ (aa hM).symm _ _ _ ⟨rfl, rfl, ay.sub ⟨rfl, rfl, rfl, rfl, trivial⟩⟩)
  refine Any.known (t := 33) rfl QO ?_
  refine Any.vs 10 [4, 5, 6, 7, 8, 9, 10, 11, 12, 13] rfl ?_
  refine Any.done ?_
  refine At.cond_false rfl ?_
  exact At.exit rfl (XX _ (aa hM).symm _ _ _ ⟨rfl, rfl, ay.sub ⟨rfl, rfl, rfl, rfl, trivial⟩⟩)
 rintro oL aFE aDH aO5 ⟨rfl, rfl, apj⟩ hM
 refine At.sub apj ?_
 refine sq ?_
 refine At.block ?_
 refine At.eI hM (λ (xP : Int) R' H' st' => R = R' ∧ H' = BE ++ (H) ∧ aF st' [(0, v0), (1, iv x1), (10, iv oL), (11, iv xP)]) (λ (mO : Int) R' H' st' => R = R' ∧ H' = BE ++ (H) ∧ aF st' [(0, v0), (1, iv x1), (10, iv oL), (11, iv mO)]) 2 rfl ⟨rfl, rfl, ay.sub ⟨rfl, rfl, rfl, rfl, trivial⟩⟩ ?_ ?_
 rotate_right
 ·rintro xP aFL aDO aPd ⟨rfl, rfl, aps⟩ aRC hM ae5 XY
  refine At.sub aps ?_
  refine sq ?_
  refine sq ?_
  refine At.dw xL mixed ?_
  refine Any.vs 4 [0, 1, 2, 3] rfl ?_
  refine bA hM (λ QS hM => ?_) (λ QS hM => ?_)
  ·refine Any.known (t := 49) rfl QS ?_
   refine Any.vs 2 [4, 5] rfl ?_
   obtain ⟨UO, atV, hM⟩ := aj hM
   obtain ⟨UP, atW, hM⟩ := aj hM
   obtain ⟨H6, ZS, hM⟩ := aj hM
   obtain ⟨aI3, aNW, _, rfl, ajX, amt⟩ := (r6.rd (λ _ h => (List.mem_append_left _ h))).elem bm atV
   refine Any.tk 6 rfl pp (λ R' H' hR hS => Ox.aX rfl rfl rfl amt rfl (.one rfl) ⟨rfl, rfl, rfl⟩) ?_
   refine Any.tk 7 rfl pp (λ R' H' hR hS => Ox.bu rfl rfl aV (((ajX.le hR).sub (λ p h => hS p (pp p h))).one (j := 0) rfl) rfl (.one rfl) ⟨rfl, rfl, rfl⟩) ?_
   refine Any.vs 2 [8, 9] rfl ?_
   obtain ⟨aI4, aNX, _, rfl, ajY, amu⟩ := (r6.rd (λ _ h => (List.mem_append_left _ h))).elem bm atW
   refine Any.tk 10 rfl pp (λ R' H' hR hS => Ox.aX rfl rfl rfl amu rfl (.one rfl) ⟨rfl, rfl, rfl⟩) ?_
   refine Any.tk 11 rfl pp (λ R' H' hR hS => Ox.bu rfl rfl aV (((ajY.le hR).sub (λ p h => hS p (pp p h))).one (j := 0) rfl) rfl (.one rfl) ⟨rfl, rfl, rfl⟩) ?_
   refine Any.cv 12 nu (nF UO UP  ZS) ?_
   rintro _ _ _ ⟨rfl, rfl, rfl⟩
   refine kp ?_
   refine Any.vs 2 [13, 14] rfl ?_
   refine Any.done ?_
   refine sc hM (λ QT hM => ?_) (λ QT hM => ?_)
   ·refine sp ?_
    refine At.block ?_
    refine At.rg aT ?_
    refine vs 3 ?_
    refine er ?_
    refine At.inBlock ?_
    exact ae5 _ (aa hM).symm _ _ _ ⟨rfl, rfl, ay.sub ⟨rfl, rfl, rfl, rfl, trivial⟩⟩
   exact At.exit rfl (XY _ (aa hM).symm _ _ _ ⟨rfl, rfl, ay.sub ⟨rfl, rfl, rfl, rfl, trivial⟩⟩)
  refine Any.known (t := 49) rfl QS ?_
  refine Any.vs 11 [4, 5, 6, 7, 8, 9, 10, 11, 12, 13, 14] rfl ?_
  refine Any.done ?_
  refine At.cond_false rfl ?_
  exact At.exit rfl (XY _ (aa hM).symm _ _ _ ⟨rfl, rfl, ay.sub ⟨rfl, rfl, rfl, rfl, trivial⟩⟩)
 rintro mO aFM aDP aPe ⟨rfl, rfl, apt⟩ hM
 refine At.sub apt ?_
 refine sq ?_
 refine sg aT ?_
 refine vs 3 ?_
 refine er ?_
 refine sc hM (λ aru hM => ?_) (λ aru hM => ?_)
 ·refine sq ?_
  refine At.draw (n := 16) (is := [0, 1, 2, 3, 4, 5, 6, 7, 8, 9, 10, 11, 12, 13, 14, 15]) (many (BE ++ (H)) [(13, H), (15, H)]) mixed rfl (by decide +kernel) rfl rfl ?_
  refine Any.vs 6 [0, 1, 2, 3, 4, 5] rfl ?_
  obtain ⟨pP, Sm, hM⟩ := aj hM
  obtain ⟨DC, Sn, hM⟩ := aj hM
  obtain ⟨ac4, atZ, hM⟩ := aj hM
  obtain ⟨ac5, at0, hM⟩ := aj hM
  obtain ⟨aI9, aN3, _, rfl, aj3, amz⟩ := (r6.rd (λ _ h => (List.mem_append_left _ h))).elem bm Sm
  refine ts 6 [7, 12, 13, 14, 15] rfl (aN rfl (aN rfl (bf (su (aH sr))))) (su (aH sr)) (λ R' H' hR hS => Ox.aX rfl rfl rfl amz rfl (.one rfl) ⟨rfl, rfl, rfl⟩) ?_
  refine ts 7 [12, 13, 14, 15] rfl (aN rfl (aN rfl (bf pp))) pp (λ R' H' hR hS => Ox.bu rfl rfl aV (((aj3.le hR).sub (λ p h => hS p (pp p h))).one (j := 0) rfl) rfl (.one rfl) ⟨rfl, rfl, rfl⟩) ?_
  refine Any.vs 2 [8, 9] rfl ?_
  obtain ⟨aJa, aN4, _, rfl, aj4, amA⟩ := (r6.rd (λ _ h => (List.mem_append_left _ h))).elem bm Sn
  refine ts 10 [11, 12, 13, 14, 15] rfl (aN rfl (aN rfl (bf (su (aH sr))))) (su (aH sr)) (λ R' H' hR hS => Ox.aX rfl rfl rfl amA rfl (.one rfl) ⟨rfl, rfl, rfl⟩) ?_
  refine ts 11 [12, 13, 14, 15] rfl (aN rfl (aN rfl (bf pp))) pp (λ R' H' hR hS => Ox.bu rfl rfl aV (((aj4.le hR).sub (λ p h => hS p (pp p h))).one (j := 0) rfl) rfl (.one rfl) ⟨rfl, rfl, rfl⟩) ?_
  obtain ⟨aJb, aKA, _, rfl, rfl, aLr, alp, amB, aL3, av1, asy⟩ := r6.eu bm atZ
  refine ts 12 [13, 14, 15] rfl (aN rfl (aN rfl (bf (su (so sr))))) (su (so sr)) (λ R' H' hR hS => Ox.aX rfl rfl rfl amB rfl (.one rfl) ⟨rfl, rfl, rfl⟩) ?_
  refine Any.on 13 rfl rfl (aP.to (Ox.eC (K := CZ) (k := 1) (e := 3) (i := mO) (x' := pP) (pre := []) (mid := [iv ac4]) (post := []) .id rfl rfl rfl rfl eV rfl (aq rfl aW) alp rfl rfl rfl av1 asy rfl rfl (.refl _) λ aE4 aok => ⟨rr, (bL rfl (su (aH sr))), ?_⟩))
  obtain ⟨aJc, aKB, _, rfl, rfl, aLs, alq, amC, aL4, av2, asz⟩ := aok.eu bm at0
  refine ts 14 [15] rfl (aN rfl (aN rfl (bf (su (so sr))))) (su (so sr)) (λ R' H' hR hS => Ox.aX rfl rfl rfl amC rfl (.one rfl) ⟨rfl, rfl, rfl⟩) ?_
  refine Any.on 15 rfl rfl (aP.to (Ox.eC (K := CZ) (k := 1) (e := 3) (i := x1) (x' := DC) (pre := []) (mid := [iv ac5]) (post := []) .id rfl rfl rfl rfl eV rfl (aq rfl aW) alq rfl rfl rfl av2 asz rfl rfl (.refl _) λ ad0 aol => ⟨rr, (bL rfl (su (aH sr))), ?_⟩))
  refine Any.done ?_
  refine sg aT ?_
  refine vs 3 ?_
  refine er ?_
  obtain rfl := aa hM
  exact rt Tryz.func185 (.tmp rfl (.tmp rfl .nil)) sr (hk _ _ _ ⟨ad0, ⟨rfl, aol, rfl⟩, rfl⟩)
 refine sp ?_
 refine sq ?_
 refine At.draw (n := 16) (is := [0, 1, 2, 3, 4, 5, 6, 7, 8, 9, 10, 11, 12, 13, 14, 15]) (many (BE ++ (H)) [(13, H), (15, H)]) mixed rfl (by decide +kernel) rfl rfl ?_
 refine Any.vs 6 [0, 1, 2, 3, 4, 5] rfl ?_
 obtain ⟨vz, Sp, hM⟩ := aj hM
 obtain ⟨UR, at1, hM⟩ := aj hM
 obtain ⟨nU, F9, hM⟩ := aj hM
 obtain ⟨oQ, Sq, hM⟩ := aj hM
 obtain ⟨aJd, aN5, _, rfl, aj5, amD⟩ := (r6.rd (λ _ h => (List.mem_append_left _ h))).elem bm Sp
 refine ts 6 [7, 12, 13, 14, 15] rfl (aN rfl (aN rfl (bf (su (aH sr))))) (su (aH sr)) (λ R' H' hR hS => Ox.aX rfl rfl rfl amD rfl (.one rfl) ⟨rfl, rfl, rfl⟩) ?_
 refine ts 7 [12, 13, 14, 15] rfl (aN rfl (aN rfl (bf pp))) pp (λ R' H' hR hS => Ox.bu rfl rfl aV (((aj5.le hR).sub (λ p h => hS p (pp p h))).one (j := 0) rfl) rfl (.one rfl) ⟨rfl, rfl, rfl⟩) ?_
 refine Any.vs 2 [8, 9] rfl ?_
 obtain ⟨aJe, aN6, _, rfl, aj6, amE⟩ := (r6.rd (λ _ h => (List.mem_append_left _ h))).elem bm at1
 refine ts 10 [11, 12, 13, 14, 15] rfl (aN rfl (aN rfl (bf (su (aH sr))))) (su (aH sr)) (λ R' H' hR hS => Ox.aX rfl rfl rfl amE rfl (.one rfl) ⟨rfl, rfl, rfl⟩) ?_
 refine ts 11 [12, 13, 14, 15] rfl (aN rfl (aN rfl (bf pp))) pp (λ R' H' hR hS => Ox.bu rfl rfl aV (((aj6.le hR).sub (λ p h => hS p (pp p h))).one (j := 0) rfl) rfl (.one rfl) ⟨rfl, rfl, rfl⟩) ?_
 obtain ⟨aJf, aKC, _, rfl, rfl, aLt, alr, amF, aL5, av3, asA⟩ := r6.eu bm F9
 refine ts 12 [13, 14, 15] rfl (aN rfl (aN rfl (bf (su (so sr))))) (su (so sr)) (λ R' H' hR hS => Ox.aX rfl rfl rfl amF rfl (.one rfl) ⟨rfl, rfl, rfl⟩) ?_
 refine Any.on 13 rfl rfl (aP.to (Ox.eC (K := CZ) (k := 1) (e := 3) (i := oL) (x' := vz) (pre := []) (mid := [iv nU]) (post := []) .id rfl rfl rfl rfl eV rfl (aq rfl aW) alr rfl rfl rfl av3 asA rfl rfl (.refl _) λ aE5 aom => ⟨rr, (bL rfl (su (aH sr))), ?_⟩))
 obtain ⟨aJg, aKD, _, rfl, rfl, aLu, als, amG, aL6, av4, asB⟩ := aom.eu bm Sq
 refine ts 14 [15] rfl (aN rfl (aN rfl (bf (su (so sr))))) (su (so sr)) (λ R' H' hR hS => Ox.aX rfl rfl rfl amG rfl (.one rfl) ⟨rfl, rfl, rfl⟩) ?_
 refine Any.on 15 rfl rfl (aP.to (Ox.eC (K := CZ) (k := 1) (e := 3) (i := mO) (x' := UR) (pre := []) (mid := [iv oQ]) (post := []) .id rfl rfl rfl rfl eV rfl (aq rfl aW) als rfl rfl rfl av4 asB rfl rfl (.refl _) λ ad1 aon => ⟨rr, (bL rfl (su (aH sr))), ?_⟩))
 refine Any.done ?_
 refine sg aT ?_
 refine vs 3 ?_
 refine nx aT ?_
 refine vs 3 ?_
 refine es ?_
 refine At.block ?_
 refine At.eI hM (λ (jB : ((List Int) × Int × Int)) R' H' st' => R = R' ∧ ∃ tK, bg CZ 1 3 R' v0 jB.1 tK ∧ H' = tK ++ (H) ∧ aF st' [(0, v0), (1, iv x1), (10, iv jB.2.1), (11, iv jB.2.2)]) (λ (iR : ((List Int) × Int)) R' H' st' => R = R' ∧ ∃ Ig, bg CZ 1 3 R' v0 iR.1 Ig ∧ H' = Ig ++ (H) ∧ aF st' [(0, v0), (1, iv x1), (11, iv iR.2)]) 4 rfl ⟨rfl, ad1, aon, rfl, ay.sub ⟨rfl, rfl, rfl, rfl, trivial⟩⟩ ?_ ?_
 rotate_right
 ·rintro jB aFX aDZ aPp ⟨rfl, tK, wD, rfl, apE⟩ HL hM afa ud
  refine At.sub apE ?_
  refine At.block ?_
  refine sq ?_
  refine At.block ?_
  refine At.eI hM (λ (xS : Int) R' H' st' => R = R' ∧ H' = tK ++ (H) ∧ aF st' [(0, v0), (1, iv x1), (10, iv xS), (11, iv jB.2.2)]) (λ (oM : Int) R' H' st' => R = R' ∧ H' = tK ++ (H) ∧ aF st' [(0, v0), (1, iv x1), (10, iv oM), (11, iv jB.2.2)]) 6 rfl ⟨rfl, rfl, ay.sub ⟨rfl, rfl, rfl, rfl, trivial⟩⟩ ?_ ?_
  rotate_right
  ·rintro xS aF4 aD7 aPx ⟨rfl, rfl, apM⟩ UT hM aff X3
   refine At.sub apM ?_
   refine sq ?_
   refine sq ?_
   refine At.dw qR mixed ?_
   refine Any.vs 4 [0, 1, 2, 3] rfl ?_
   refine bA hM (λ Rs hM => ?_) (λ Rs hM => ?_)
   ·refine Any.known (t := 102) rfl Rs ?_
    refine Any.vs 2 [4, 5] rfl ?_
    obtain ⟨UZ, auN, hM⟩ := aj hM
    obtain ⟨nV, Ge, hM⟩ := aj hM
    obtain ⟨rq, Gf, hM⟩ := aj hM
    obtain ⟨aJw, aOf, _, rfl, akf, amS⟩ := (wD.rd (λ _ h => (List.mem_append_left _ h))).elem bm auN
    refine Any.tk 6 rfl pp (λ R' H' hR hS => Ox.aX rfl rfl rfl amS rfl (.one rfl) ⟨rfl, rfl, rfl⟩) ?_
    refine Any.tk 7 rfl pp (λ R' H' hR hS => Ox.bu rfl rfl aV (((akf.le hR).sub (λ p h => hS p (pp p h))).one (j := 0) rfl) rfl (.one rfl) ⟨rfl, rfl, rfl⟩) ?_
    refine Any.vs 2 [8, 9] rfl ?_
    obtain ⟨afZ, az2, _, rfl, O7, Px⟩ := (wD.rd (λ _ h => (List.mem_append_left _ h))).elem bm Ge
    refine Any.tk 10 rfl pp (λ R' H' hR hS => Ox.aX rfl rfl rfl Px rfl (.one rfl) ⟨rfl, rfl, rfl⟩) ?_
    refine Any.tk 11 rfl pp (λ R' H' hR hS => Ox.bu rfl rfl aV (((O7.le hR).sub (λ p h => hS p (pp p h))).one (j := 0) rfl) rfl (.one rfl) ⟨rfl, rfl, rfl⟩) ?_
    refine Any.cv 12 nu (nF UZ nV  Gf) ?_
    rintro _ _ _ ⟨rfl, rfl, rfl⟩
    refine kp ?_
    refine Any.vs 1 [13] rfl ?_
    refine Any.done ?_
    refine sc hM (λ arJ hM => ?_) (λ arJ hM => ?_)
    ·refine sp ?_
     refine At.block ?_
     refine At.rg aT ?_
     refine vs 3 ?_
     refine er ?_
     refine At.inBlock ?_
     exact aff _ (aa hM).symm _ _ _ ⟨rfl, rfl, ay.sub ⟨rfl, rfl, rfl, rfl, trivial⟩⟩
    exact At.exit rfl (X3 _ (aa hM).symm _ _ _ ⟨rfl, rfl, ay.sub ⟨rfl, rfl, rfl, rfl, trivial⟩⟩)
   refine Any.known (t := 102) rfl Rs ?_
   refine Any.vs 10 [4, 5, 6, 7, 8, 9, 10, 11, 12, 13] rfl ?_
   refine Any.done ?_
   refine At.cond_false rfl ?_
   exact At.exit rfl (X3 _ (aa hM).symm _ _ _ ⟨rfl, rfl, ay.sub ⟨rfl, rfl, rfl, rfl, trivial⟩⟩)
  rintro oM aF5 aD8 aPy ⟨rfl, rfl, apN⟩ hM
  refine At.sub apN ?_
  refine sq ?_
  refine At.block ?_
  refine At.eI hM (λ (xU : Int) R' H' st' => R = R' ∧ H' = tK ++ (H) ∧ aF st' [(0, v0), (1, iv x1), (10, iv oM), (11, iv xU)]) (λ (sX : Int) R' H' st' => R = R' ∧ H' = tK ++ (H) ∧ aF st' [(0, v0), (1, iv x1), (10, iv oM), (11, iv sX)]) 8 rfl ⟨rfl, rfl, ay.sub ⟨rfl, rfl, rfl, rfl, trivial⟩⟩ ?_ ?_
  rotate_right
  ·rintro xU aGa aEc aPC ⟨rfl, rfl, apR⟩ aRH hM afg X5
   refine At.sub apR ?_
   refine sq ?_
   refine sq ?_
   refine At.dw xL mixed ?_
   refine Any.vs 4 [0, 1, 2, 3] rfl ?_
   refine bA hM (λ Rt hM => ?_) (λ Rt hM => ?_)
   ·refine Any.known (t := 118) rfl Rt ?_
    refine Any.vs 2 [4, 5] rfl ?_
    obtain ⟨U1, auT, hM⟩ := aj hM
    obtain ⟨U2, auU, hM⟩ := aj hM
    obtain ⟨ada, auV, hM⟩ := aj hM
    obtain ⟨aJz, aOg, _, rfl, akg, amV⟩ := (wD.rd (λ _ h => (List.mem_append_left _ h))).elem bm auT
    refine Any.tk 6 rfl pp (λ R' H' hR hS => Ox.aX rfl rfl rfl amV rfl (.one rfl) ⟨rfl, rfl, rfl⟩) ?_
    refine Any.tk 7 rfl pp (λ R' H' hR hS => Ox.bu rfl rfl aV (((akg.le hR).sub (λ p h => hS p (pp p h))).one (j := 0) rfl) rfl (.one rfl) ⟨rfl, rfl, rfl⟩) ?_
    refine Any.vs 2 [8, 9] rfl ?_
    obtain ⟨aJA, aOh, _, rfl, akh, amW⟩ := (wD.rd (λ _ h => (List.mem_append_left _ h))).elem bm auU
    refine Any.tk 10 rfl pp (λ R' H' hR hS => Ox.aX rfl rfl rfl amW rfl (.one rfl) ⟨rfl, rfl, rfl⟩) ?_
    refine Any.tk 11 rfl pp (λ R' H' hR hS => Ox.bu rfl rfl aV (((akh.le hR).sub (λ p h => hS p (pp p h))).one (j := 0) rfl) rfl (.one rfl) ⟨rfl, rfl, rfl⟩) ?_
    refine Any.cv 12 nu (nF U1 U2  auV) ?_
    rintro _ _ _ ⟨rfl, rfl, rfl⟩
    refine kp ?_
    refine Any.vs 2 [13, 14] rfl ?_
    refine Any.done ?_
    refine sc hM (λ arN hM => ?_) (λ arN hM => ?_)
    ·refine sp ?_
     refine At.block ?_
     refine At.rg aT ?_
     refine vs 3 ?_
     refine er ?_
     refine At.inBlock ?_
     exact afg _ (aa hM).symm _ _ _ ⟨rfl, rfl, ay.sub ⟨rfl, rfl, rfl, rfl, trivial⟩⟩
    exact At.exit rfl (X5 _ (aa hM).symm _ _ _ ⟨rfl, rfl, ay.sub ⟨rfl, rfl, rfl, rfl, trivial⟩⟩)
   refine Any.known (t := 118) rfl Rt ?_
   refine Any.vs 11 [4, 5, 6, 7, 8, 9, 10, 11, 12, 13, 14] rfl ?_
   refine Any.done ?_
   refine At.cond_false rfl ?_
   exact At.exit rfl (X5 _ (aa hM).symm _ _ _ ⟨rfl, rfl, ay.sub ⟨rfl, rfl, rfl, rfl, trivial⟩⟩)
  rintro sX aGb aEd aPD ⟨rfl, rfl, apS⟩ hM
  refine At.sub apS ?_
  refine sq ?_
  refine sg aT ?_
  refine vs 3 ?_
  refine er ?_
  refine sc hM (λ Rv hM => ?_) (λ Rv hM => ?_)
  ·exact At.exit rfl (ud _ (aa hM).symm _ _ _ ⟨rfl, tK, wD, rfl, ay.sub ⟨rfl, rfl, rfl, trivial⟩⟩)
  refine sp ?_
  refine sq ?_
  refine At.draw (n := 16) (is := [0, 1, 2, 3, 4, 5, 6, 7, 8, 9, 10, 11, 12, 13, 14, 15]) (many (tK ++ (H)) [(13, H), (15, H)]) mixed rfl (by decide +kernel) rfl rfl ?_
  refine Any.vs 6 [0, 1, 2, 3, 4, 5] rfl ?_
  obtain ⟨L3, auW, hM⟩ := aj hM
  obtain ⟨U3, auX, hM⟩ := aj hM
  obtain ⟨vA, SA, hM⟩ := aj hM
  obtain ⟨adb, auY, hM⟩ := aj hM
  obtain ⟨aJC, aOj, _, rfl, akj, amY⟩ := (wD.rd (λ _ h => (List.mem_append_left _ h))).elem bm auW
  refine ts 6 [7, 12, 13, 14, 15] rfl (aN rfl (aN rfl (bf (su (aH sr))))) (su (aH sr)) (λ R' H' hR hS => Ox.aX rfl rfl rfl amY rfl (.one rfl) ⟨rfl, rfl, rfl⟩) ?_
  refine ts 7 [12, 13, 14, 15] rfl (aN rfl (aN rfl (bf pp))) pp (λ R' H' hR hS => Ox.bu rfl rfl aV (((akj.le hR).sub (λ p h => hS p (pp p h))).one (j := 0) rfl) rfl (.one rfl) ⟨rfl, rfl, rfl⟩) ?_
  refine Any.vs 2 [8, 9] rfl ?_
  obtain ⟨aJD, aOk, _, rfl, akk, amZ⟩ := (wD.rd (λ _ h => (List.mem_append_left _ h))).elem bm auX
  refine ts 10 [11, 12, 13, 14, 15] rfl (aN rfl (aN rfl (bf (su (aH sr))))) (su (aH sr)) (λ R' H' hR hS => Ox.aX rfl rfl rfl amZ rfl (.one rfl) ⟨rfl, rfl, rfl⟩) ?_
  refine ts 11 [12, 13, 14, 15] rfl (aN rfl (aN rfl (bf pp))) pp (λ R' H' hR hS => Ox.bu rfl rfl aV (((akk.le hR).sub (λ p h => hS p (pp p h))).one (j := 0) rfl) rfl (.one rfl) ⟨rfl, rfl, rfl⟩) ?_
  obtain ⟨aJE, aKJ, _, rfl, rfl, aLA, alz, am0, aMc, awa, asH⟩ := wD.eu bm SA
  refine ts 12 [13, 14, 15] rfl (aN rfl (aN rfl (bf (su (so sr))))) (su (so sr)) (λ R' H' hR hS => Ox.aX rfl rfl rfl am0 rfl (.one rfl) ⟨rfl, rfl, rfl⟩) ?_
  refine Any.on 13 rfl rfl (aP.to (Ox.eC (K := CZ) (k := 1) (e := 3) (i := oM) (x' := L3) (pre := []) (mid := [iv vA]) (post := []) .id rfl rfl rfl rfl eV rfl (aq rfl aW) alz rfl rfl rfl awa asH rfl rfl (.refl _) λ aE9 aos => ⟨rr, (bL rfl (su (aH sr))), ?_⟩))
  obtain ⟨aJF, aKK, _, rfl, rfl, aLB, alA, am1, aMd, awb, asI⟩ := aos.eu bm auY
  refine ts 14 [15] rfl (aN rfl (aN rfl (bf (su (so sr))))) (su (so sr)) (λ R' H' hR hS => Ox.aX rfl rfl rfl am1 rfl (.one rfl) ⟨rfl, rfl, rfl⟩) ?_
  refine Any.on 15 rfl rfl (aP.to (Ox.eC (K := CZ) (k := 1) (e := 3) (i := sX) (x' := U3) (pre := []) (mid := [iv adb]) (post := []) .id rfl rfl rfl rfl eV rfl (aq rfl aW) alA rfl rfl rfl awb asI rfl rfl (.refl _) λ ad4 aot => ⟨rr, (bL rfl (su (aH sr))), ?_⟩))
  refine Any.done ?_
  refine sg aT ?_
  refine vs 3 ?_
  refine er ?_
  refine At.rg aT ?_
  refine vs 3 ?_
  refine er ?_
  refine At.inBlock ?_
  exact afa _ (aa hM).symm _ _ _ ⟨rfl, ad4, aot, rfl, ay.sub ⟨rfl, rfl, rfl, rfl, trivial⟩⟩
 rintro iR aez adH aBi ⟨rfl, Ig, PX, rfl, Qo⟩ hM
 refine At.sub Qo ?_
 refine sq ?_
 refine At.draw (n := 16) (is := [0, 1, 2, 3, 4, 5, 6, 7, 8, 9, 10, 11, 12, 13, 14, 15]) (many (Ig ++ (H)) [(13, H), (15, H)]) mixed rfl (by decide +kernel) rfl rfl ?_
 refine Any.vs 6 [0, 1, 2, 3, 4, 5] rfl ?_
 obtain ⟨L4, auZ, hM⟩ := aj hM
 obtain ⟨U4, au0, hM⟩ := aj hM
 obtain ⟨U5, au1, hM⟩ := aj hM
 obtain ⟨ade, au2, hM⟩ := aj hM
 obtain ⟨aJG, aOl, _, rfl, akl, am2⟩ := (PX.rd (λ _ h => (List.mem_append_left _ h))).elem bm auZ
 refine ts 6 [7, 12, 13, 14, 15] rfl (aN rfl (aN rfl (bf (su (aH sr))))) (su (aH sr)) (λ R' H' hR hS => Ox.aX rfl rfl rfl am2 rfl (.one rfl) ⟨rfl, rfl, rfl⟩) ?_
 refine ts 7 [12, 13, 14, 15] rfl (aN rfl (aN rfl (bf pp))) pp (λ R' H' hR hS => Ox.bu rfl rfl aV (((akl.le hR).sub (λ p h => hS p (pp p h))).one (j := 0) rfl) rfl (.one rfl) ⟨rfl, rfl, rfl⟩) ?_
 refine Any.vs 2 [8, 9] rfl ?_
 obtain ⟨aJH, aOm, _, rfl, akm, am3⟩ := (PX.rd (λ _ h => (List.mem_append_left _ h))).elem bm au0
 refine ts 10 [11, 12, 13, 14, 15] rfl (aN rfl (aN rfl (bf (su (aH sr))))) (su (aH sr)) (λ R' H' hR hS => Ox.aX rfl rfl rfl am3 rfl (.one rfl) ⟨rfl, rfl, rfl⟩) ?_
 refine ts 11 [12, 13, 14, 15] rfl (aN rfl (aN rfl (bf pp))) pp (λ R' H' hR hS => Ox.bu rfl rfl aV (((akm.le hR).sub (λ p h => hS p (pp p h))).one (j := 0) rfl) rfl (.one rfl) ⟨rfl, rfl, rfl⟩) ?_
 obtain ⟨aJI, aKL, _, rfl, rfl, aLC, alB, am4, aMe, awc, asJ⟩ := PX.eu bm au1
 refine ts 12 [13, 14, 15] rfl (aN rfl (aN rfl (bf (su (so sr))))) (su (so sr)) (λ R' H' hR hS => Ox.aX rfl rfl rfl am4 rfl (.one rfl) ⟨rfl, rfl, rfl⟩) ?_
 refine Any.on 13 rfl rfl (aP.to (Ox.eC (K := CZ) (k := 1) (e := 3) (i := iR.2) (x' := L4) (pre := []) (mid := [iv U5]) (post := []) .id rfl rfl rfl rfl eV rfl (aq rfl aW) alB rfl rfl rfl awc asJ rfl rfl (.refl _) λ aFa aou => ⟨rr, (bL rfl (su (aH sr))), ?_⟩))
 obtain ⟨aJJ, aKM, _, rfl, rfl, aLD, alC, am5, aMf, awd, asK⟩ := aou.eu bm au2
 refine ts 14 [15] rfl (aN rfl (aN rfl (bf (su (so sr))))) (su (so sr)) (λ R' H' hR hS => Ox.aX rfl rfl rfl am5 rfl (.one rfl) ⟨rfl, rfl, rfl⟩) ?_
 refine Any.on 15 rfl rfl (aP.to (Ox.eC (K := CZ) (k := 1) (e := 3) (i := x1) (x' := U4) (pre := []) (mid := [iv ade]) (post := []) .id rfl rfl rfl rfl eV rfl (aq rfl aW) alC rfl rfl rfl awd asK rfl rfl (.refl _) λ ad5 aov => ⟨rr, (bL rfl (su (aH sr))), ?_⟩))
 refine Any.done ?_
 refine sg aT ?_
 refine vs 3 ?_
 refine er ?_
 obtain rfl := aa hM
 exact rt Tryz.func185 (.tmp rfl (.tmp rfl .nil)) sr (hk _ _ _ ⟨ad5, ⟨rfl, aov, rfl⟩, rfl⟩)
theorem ayd (k : Nat) : ∀ {R : aA} {H : ak} (x0 : (List Int)) (x1 : Int) (x2 : Int) (x3 : Int) {v0 : Value} {cQ : ak} (_ : bg CZ 1 3 R v0 x0 cQ) {r : (List Int)} (_ : qE k x0 x1 x2 x3 = some r), aB ah 169 #[v0, iv x1, iv x2, iv x3] R (cQ ++ H) (λ v R' H' => ∃ bF, (R = R' ∧ bg CZ 1 3 R' v0 r bF ∧ v = .tuple #[]) ∧ H' = bF ++ H) := by
 induction k with
 | zero => intro R H x0 x1 x2 x3 v0 cQ dU r hM; exact absurd hM (by simp [qE])
 | succ k ih =>
  intro R H x0 x1 x2 x3 v0 cQ dU r hM
  rw [qE] at hM
  refine aB.bk Tryz.func169 rfl (n := 134) rfl rfl λ fr cs hk => ?_
  refine sg aQ ?_
  refine vs 1 ?_
  refine nx aQ ?_
  refine vs 1 ?_
  refine er ?_
  refine At.block ?_
  refine At.axk hM (λ (aY : ((List Int) × Int × Int × Int × Bool × Bool)) R' H' st' => R = R' ∧ ∃ Ie, bg CZ 1 3 R' v0 aY.1 Ie ∧ H' = Ie ++ (H) ∧ aF st' [(0, v0), (1, iv aY.2.1), (2, iv aY.2.2.1), (3, iv aY.2.2.2.1), (8, .bool aY.2.2.2.2.1), (9, .bool aY.2.2.2.2.2)])   ⟨rfl, cQ, dU, rfl, ay.sub ⟨rfl, rfl, rfl, rfl, rfl, rfl, trivial⟩⟩ ?_
  rintro aY aFG aDJ aO8 ⟨rfl, Ie, JW, rfl, apm⟩ fL hM MW  TQ
  refine At.sub apm ?_
  refine At.block ?_
  refine sg bw ?_
  refine vs 4 ?_
  refine es ?_
  refine sg aR ?_
  refine vs 2 ?_
  refine er ?_
  refine sc hM (λ arL hM => ?_) (λ arL hM => ?_)
  ·refine sq ?_
   obtain ⟨L1, auR, hM⟩ := aj hM
   refine At.rg bw ?_
   refine vs 3 ?_
   refine At.step rfl rfl rfl (Ox.cD rfl rfl rfl rfl ag2 rfl rfl ((aB.hole (G := (λ X => X ++ (H))) .id (ayk aY.1 aY.2.1 aY.2.2.1 JW auR)).mono ?_))
   rintro _ _ _ ⟨aeg, ⟨rfl, aoH, rfl⟩, rfl⟩
   refine ⟨_, (.put rfl), ?_⟩
   refine er ?_
   replace hM := TQ _ (aa hM).symm
   obtain rfl := aa hM
   exact rt Tryz.func169 .nil sr (hk _ _ _ ⟨aeg, ⟨rfl, aoH, rfl⟩, rfl⟩)
  refine sp ?_
  refine sq ?_
  refine sg aR ?_
  refine vs 2 ?_
  refine er ?_
  refine sc hM (λ arM hM => ?_) (λ arM hM => ?_)
  ·refine sq ?_
   obtain ⟨L2, auS, hM⟩ := aj hM
   refine At.rg bw ?_
   refine vs 3 ?_
   refine At.step rfl rfl rfl (Ox.cD rfl rfl rfl rfl ag3 rfl rfl ((aB.hole (G := (λ X => X ++ (H))) .id (aym aY.1 aY.2.1 aY.2.2.1 JW auS)).mono ?_))
   rintro _ _ _ ⟨aeh, ⟨rfl, aoI, rfl⟩, rfl⟩
   refine ⟨_, (.put rfl), ?_⟩
   refine er ?_
   replace hM := TQ _ (aa hM).symm
   obtain rfl := aa hM
   exact rt Tryz.func169 .nil sr (hk _ _ _ ⟨aeh, ⟨rfl, aoI, rfl⟩, rfl⟩)
  refine sp ?_
  refine sq ?_
  refine sg aR ?_
  refine vs 2 ?_
  refine er ?_
  refine At.eZ hM (λ (fy : ((List Int) × Int)) R' H' st' => R = R' ∧ ∃ Ii, bg CZ 1 3 R' v0 fy.1 Ii ∧ H' = Ii ++ (H) ∧ aF st' [(0, v0), (1, iv aY.2.1), (2, iv aY.2.2.1), (3, iv fy.2), (8, .bool aY.2.2.2.2.1), (9, .bool aY.2.2.2.2.2), (10, iv (i64 (aY.2.2.1 - aY.2.1)))])  ?_ ?_
  rotate_right
  ·intro aRI hM X6
   refine sc hM (λ Ru hM => ?_) (λ Ru hM => ?_)
   ·refine sq ?_
    obtain ⟨ru, Sy, hM⟩ := aj hM
    refine At.rg bw ?_
    refine vs 3 ?_
    refine At.step rfl rfl rfl (Ox.cD rfl rfl rfl rfl ag4 rfl rfl ((aB.hole (G := (λ X => X ++ (H))) .id (ayn aY.1 aY.2.1 aY.2.2.1 JW Sy)).mono ?_))
    rintro _ _ _ ⟨aei, ⟨rfl, aoJ, rfl⟩, rfl⟩
    refine ⟨_, (.put rfl), ?_⟩
    refine er ?_
    refine At.rg aT ?_
    refine vs 3 ?_
    refine er ?_
    exact X6 _ (aa hM).symm _ _ _ ⟨rfl, aei, aoJ, rfl, ay.sub ⟨rfl, rfl, rfl, rfl, rfl, rfl, rfl, trivial⟩⟩
   refine sp ?_
   exact X6 _ (aa hM).symm _ _ _ ⟨rfl, Ie, JW, rfl, ay.sub ⟨rfl, rfl, rfl, rfl, rfl, rfl, rfl, trivial⟩⟩
  rintro fy aGc aEe aPE ⟨rfl, Ii, PY, rfl, apT⟩ hM
  refine At.sub apT ?_
  refine sq ?_
  obtain ⟨oR, Sz, hM⟩ := aj hM
  refine At.rg iG ?_
  refine vs 3 ?_
  refine At.cv ag6 (ayp fy.1 aY.2.1 aY.2.2.1 (PY.rd (λ _ h => (List.mem_append_left _ h))) Sz) ?_
  rintro _ _ _ ⟨rfl, rfl, rfl⟩
  refine vs 5 ?_
  refine es ?_
  refine sg aR ?_
  refine vs 2 ?_
  refine er ?_
  refine At.eZ hM (λ (gT : ((List Int) × Int × Int)) R' H' st' => R = R' ∧ ∃ D6, bg CZ 1 3 R' v0 gT.1 D6 ∧ H' = D6 ++ (H) ∧ aF st' [(0, v0), (1, iv aY.2.1), (2, iv aY.2.2.1), (3, iv fy.2), (8, .bool aY.2.2.2.2.1), (9, .bool aY.2.2.2.2.2), (10, iv (i64 (aY.2.2.1 - aY.2.1))), (11, iv gT.2.1), (12, iv gT.2.2)])  ?_ ?_
  rotate_right
  ·intro aRJ hM X7
   refine sc hM (λ arP hM => ?_) (λ arP hM => ?_)
   ·refine sq ?_
    obtain ⟨vA, SA, hM⟩ := aj hM
    refine At.rg bw ?_
    refine vs 3 ?_
    refine At.step rfl rfl rfl (Ox.cD rfl rfl rfl rfl ag7 rfl rfl ((aB.hole (G := (λ X => X ++ (H))) .id (ays fy.1 aY.2.1 aY.2.2.1 PY SA)).mono ?_))
    rintro _ _ _ ⟨aej, ⟨rfl, aoK, rfl⟩, rfl⟩
    refine ⟨_, (.put rfl), ?_⟩
    refine nx fe ?_
    refine vs 7 ?_
    refine er ?_
    refine At.rg aQ ?_
    refine vs 1 ?_
    refine er ?_
    exact X7 _ (aa hM).symm _ _ _ ⟨rfl, aej, aoK, rfl, ay.sub ⟨rfl, rfl, rfl, rfl, rfl, rfl, rfl, rfl, rfl, trivial⟩⟩
   refine sp ?_
   exact X7 _ (aa hM).symm _ _ _ ⟨rfl, Ii, PY, rfl, ay.sub ⟨rfl, rfl, rfl, rfl, rfl, rfl, rfl, rfl, rfl, trivial⟩⟩
  rintro gT aGd aEf aPF ⟨rfl, D6, Zk, rfl, apU⟩ hM
  refine At.sub apU ?_
  refine sq ?_
  refine sq ?_
  refine At.eZ hM (λ (C5 : Bool) R' H' st' => R = R' ∧ H' = D6 ++ (H) ∧ aF st' [(0, v0), (1, iv aY.2.1), (2, iv aY.2.2.1), (3, iv fy.2), (8, .bool aY.2.2.2.2.1), (9, .bool aY.2.2.2.2.2), (10, iv (i64 (aY.2.2.1 - aY.2.1))), (11, iv gT.2.1), (68, .bool C5)])  ?_ ?_
  rotate_right
  ·intro aRK hM N9
   refine bA hM (λ J6 hM => ?_) (λ J6 hM => ?_)
   ·refine bA hM (λ Rw hM => ?_) (λ Rw hM => ?_)
    ·refine At.rg eK ?_
     refine vs 2 ?_
     refine At.kn 62 J6 ?_
     refine vs 3 ?_
     refine At.kn 65 Rw ?_
     refine vs 3 ?_
     refine er ?_
     exact N9 _ (aa hM).symm _ _ _ ⟨rfl, rfl, ay.sub ⟨rfl, rfl, rfl, rfl, rfl, rfl, rfl, rfl, rfl, trivial⟩⟩
    refine At.rg eK ?_
    refine vs 2 ?_
    refine At.kn 62 J6 ?_
    refine vs 3 ?_
    refine At.kn 65 Rw ?_
    refine vs 3 ?_
    refine er ?_
    exact N9 _ (aa hM).symm _ _ _ ⟨rfl, rfl, ay.sub ⟨rfl, rfl, rfl, rfl, rfl, rfl, rfl, rfl, rfl, trivial⟩⟩
   refine At.rg eK ?_
   refine vs 2 ?_
   refine At.kn 62 J6 ?_
   refine vs 6 ?_
   refine er ?_
   exact N9 _ (aa hM).symm _ _ _ ⟨rfl, rfl, ay.sub ⟨rfl, rfl, rfl, rfl, rfl, rfl, rfl, rfl, rfl, trivial⟩⟩
  rintro C5 aGe aEg aPG ⟨rfl, rfl, apV⟩ hM
  refine At.sub apV ?_
  refine At.awn hM (λ (nL : (List Int)) R' H' st' => R = R' ∧ ∃ Ij, bg CZ 1 3 R' v0 nL Ij ∧ H' = Ij ++ (H) ∧ aF st' [(0, v0), (1, iv aY.2.1), (2, iv aY.2.2.1), (3, iv fy.2), (8, .bool aY.2.2.2.2.1), (9, .bool aY.2.2.2.2.2), (10, iv (i64 (aY.2.2.1 - aY.2.1))), (11, iv gT.2.1)])  ?_ ?_
  rotate_right
  ·intro U5 hM X8 azS
   refine sc hM (λ arQ hM => ?_) (λ arQ hM => ?_)
   ·refine sq ?_
    obtain ⟨lY, au3, hM⟩ := aj hM
    refine At.rg bw ?_
    refine vs 3 ?_
    refine At.step rfl rfl rfl (Ox.cD rfl rfl rfl rfl ag8 rfl rfl ((aB.hole (G := (λ X => X ++ (H))) .id (ayu gT.1 aY.2.1 aY.2.2.1 Zk au3)).mono ?_))
    rintro _ _ _ ⟨VM, ⟨rfl, Zr, rfl⟩, rfl⟩
    refine ⟨_, (.put rfl), ?_⟩
    refine er ?_
    refine sc hM (λ arS hM => ?_) (λ arS hM => ?_)
    ·replace hM := azS _ (aa hM).symm
     replace hM := TQ _ (aa hM).symm
     obtain rfl := aa hM
     exact rt Tryz.func169 .nil sr (hk _ _ _ ⟨VM, ⟨rfl, Zr, rfl⟩, rfl⟩)
    refine sp ?_
    exact X8 _ (aa hM).symm _ _ _ ⟨rfl, VM, Zr, rfl, ay.sub ⟨rfl, rfl, rfl, rfl, rfl, rfl, rfl, rfl, trivial⟩⟩
   refine sp ?_
   exact X8 _ (aa hM).symm _ _ _ ⟨rfl, D6, Zk, rfl, ay.sub ⟨rfl, rfl, rfl, rfl, rfl, rfl, rfl, rfl, trivial⟩⟩
  rintro nL aGf aEh aPH ⟨rfl, Ij, JX, rfl, apW⟩ hM
  refine At.sub apW ?_
  refine sq ?_
  refine sq ?_
  refine At.eZ hM (λ (C6 : Bool) R' H' st' => R = R' ∧ H' = Ij ++ (H) ∧ aF st' [(0, v0), (1, iv aY.2.1), (2, iv aY.2.2.1), (3, iv fy.2), (8, .bool aY.2.2.2.2.1), (9, .bool aY.2.2.2.2.2), (10, iv (i64 (aY.2.2.1 - aY.2.1))), (11, iv gT.2.1), (87, .bool C6)])  ?_ ?_
  rotate_right
  ·intro aRL hM X9
   refine bA hM (λ Rx hM => ?_) (λ Rx hM => ?_)
   ·obtain ⟨Bj, au4, hM⟩ := aj hM
    obtain ⟨Bl, au5, hM⟩ := aj hM
    obtain ⟨DH, au6, hM⟩ := aj hM
    refine At.dw xL mixed ?_
    refine Any.vs 3 [0, 1, 2] rfl ?_
    refine Any.known (t := 75) rfl Rx ?_
    refine Any.vs 3 [3, 4, 5] rfl ?_
    obtain ⟨aJK, aOn, _, rfl, akn, am6⟩ := (JX.rd (λ _ h => (List.mem_append_left _ h))).elem bm au4
    refine Any.tk 6 rfl pp (λ R' H' hR hS => Ox.aX rfl rfl rfl am6 rfl (.one rfl) ⟨rfl, rfl, rfl⟩) ?_
    refine Any.tk 7 rfl pp (λ R' H' hR hS => Ox.bu rfl rfl aV (((akn.le hR).sub (λ p h => hS p (pp p h))).one (j := 0) rfl) rfl (.one rfl) ⟨rfl, rfl, rfl⟩) ?_
    refine Any.vs 2 [8, 9] rfl ?_
    obtain ⟨aJL, aOo, _, rfl, ako, am7⟩ := (JX.rd (λ _ h => (List.mem_append_left _ h))).elem bm au5
    refine Any.tk 10 rfl pp (λ R' H' hR hS => Ox.aX rfl rfl rfl am7 rfl (.one rfl) ⟨rfl, rfl, rfl⟩) ?_
    refine Any.tk 11 rfl pp (λ R' H' hR hS => Ox.bu rfl rfl aV (((ako.le hR).sub (λ p h => hS p (pp p h))).one (j := 0) rfl) rfl (.one rfl) ⟨rfl, rfl, rfl⟩) ?_
    refine Any.cv 12 nu (nF Bj Bl  au6) ?_
    rintro _ _ _ ⟨rfl, rfl, rfl⟩
    refine kp ?_
    refine Any.vs 2 [13, 14] rfl ?_
    refine Any.done ?_
    exact X9 _ (aa hM).symm _ _ _ ⟨rfl, rfl, ay.sub ⟨rfl, rfl, rfl, rfl, rfl, rfl, rfl, rfl, rfl, trivial⟩⟩
   refine At.dw xL mixed ?_
   refine Any.vs 3 [0, 1, 2] rfl ?_
   refine Any.known (t := 75) rfl Rx ?_
   refine Any.vs 12 [3, 4, 5, 6, 7, 8, 9, 10, 11, 12, 13, 14] rfl ?_
   refine Any.done ?_
   exact X9 _ (aa hM).symm _ _ _ ⟨rfl, rfl, ay.sub ⟨rfl, rfl, rfl, rfl, rfl, rfl, rfl, rfl, rfl, trivial⟩⟩
  rintro C6 aGg aEi aPI ⟨rfl, rfl, apX⟩ hM
  refine At.sub apX ?_
  refine sc hM (λ arT hM => ?_) (λ arT hM => ?_)
  ·refine sq ?_
   obtain ⟨DI, au7, hM⟩ := aj hM
   refine At.rg c6 ?_
   refine vs 4 ?_
   refine At.step rfl rfl rfl (Ox.cD rfl rfl rfl rfl ag9 rfl rfl ((aB.hole (G := (λ X => X ++ (H))) .id (ayw nL aY.2.1 aY.2.2.1 gT.2.1 JX au7)).mono ?_))
   rintro _ _ _ ⟨aek, ⟨rfl, aoL, rfl⟩, rfl⟩
   refine ⟨_, (.put rfl), ?_⟩
   refine vs 1 ?_
   refine nx aR ?_
   refine vs 2 ?_
   refine er ?_
   refine At.exit rfl ?_
   exact MW _ (aa hM).symm _ _ _ ⟨rfl, aek, aoL, rfl, ay.sub ⟨rfl, rfl, rfl, rfl, rfl, rfl, trivial⟩⟩
  refine sp ?_
  refine sq ?_
  obtain ⟨e9, au8, hM⟩ := aj hM
  refine At.rg mS ?_
  refine vs 4 ?_
  refine At.step rfl rfl rfl (Ox.cD rfl rfl rfl rfl aha rfl rfl ((aB.hole (G := (λ X => X ++ (H))) .id (ayy nL aY.2.1 aY.2.2.1 gT.2.1 JX au8)).mono ?_))
  rintro _ _ _ ⟨aFf, ⟨rfl, Zs, rfl⟩, rfl⟩
  refine ⟨_, (.put rfl), ?_⟩
  refine vs 5 ?_
  refine nx aR ?_
  refine vs 2 ?_
  refine nx eK ?_
  refine vs 8 ?_
  refine es ?_
  obtain ⟨DJ, au9, hM⟩ := aj hM
  refine At.rg aT ?_
  refine vs 1 ?_
  refine At.s rfl rfl (Ox.quo rfl rfl rfl au9 rfl (.put rfl) ?_)
  refine vs 1 ?_
  refine nx aT ?_
  refine vs 3 ?_
  refine er ?_
  refine sc hM (λ arU hM => ?_) (λ arU hM => ?_)
  ·refine sg bw ?_
   refine vs 4 ?_
   refine es ?_
   obtain ⟨L5, ava, hM⟩ := aj hM
   refine At.rg cB ?_
   refine vs 4 ?_
   refine At.step rfl rfl rfl (Ox.cD rfl rfl rfl rfl NQ rfl rfl ((aB.hole (G := (λ X => X ++ (H))) .id (ih e9.1 aY.2.1 e9.2.1 fy.2 Zs ava)).mono ?_))
   rintro _ _ _ ⟨ael, ⟨rfl, aoM, rfl⟩, rfl⟩
   refine ⟨_, (.put rfl), ?_⟩
   refine er ?_
   refine At.rg aT ?_
   refine vs 3 ?_
   refine er ?_
   refine At.inBlock ?_
   exact MW _ (aa hM).symm _ _ _ ⟨rfl, ael, aoM, rfl, ay.sub ⟨rfl, rfl, rfl, rfl, rfl, rfl, trivial⟩⟩
  refine sg bw ?_
  refine vs 4 ?_
  refine es ?_
  obtain ⟨L6, avb, hM⟩ := aj hM
  refine At.rg c6 ?_
  refine vs 5 ?_
  refine At.step rfl rfl rfl (Ox.cD rfl rfl rfl rfl NQ rfl rfl ((aB.hole (G := (λ X => X ++ (H))) .id (ih e9.1 (i64 (e9.2.1 + 1)) aY.2.2.1 fy.2 Zs avb)).mono ?_))
  rintro _ _ _ ⟨aem, ⟨rfl, aoN, rfl⟩, rfl⟩
  refine ⟨_, (.put rfl), ?_⟩
  refine er ?_
  refine At.rg aR ?_
  refine vs 2 ?_
  refine er ?_
  refine At.inBlock ?_
  exact MW _ (aa hM).symm _ _ _ ⟨rfl, aem, aoN, rfl, ay.sub ⟨rfl, rfl, rfl, rfl, rfl, rfl, trivial⟩⟩
theorem axU (x0 : (List Int)) {v0 : Value} {cQ : ak} (dU : bg CZ 1 3 R v0 x0 cQ) {r : (List Int)} (hM : xk x0 = some r) : aB ah 155 #[v0] R (cQ ++ H) (λ v R' H' => ∃ bF, (R = R' ∧ bg CZ 1 3 R' v0 r bF ∧ v = .tuple #[]) ∧ H' = bF ++ H) := by
 unfold xk at hM
 refine aB.bk Tryz.func155 rfl (n := 11) rfl rfl λ fr cs hk => ?_
 refine sg aT ?_
 refine vs 1 ?_
 refine At.s rfl rfl (Ox.Gv rfl rfl dU Tryz.underlying25 rfl (.put rfl) ?_)
 refine vs 1 ?_
 refine er ?_
 refine At.rg c6 ?_
 refine vs 3 ?_
 refine At.s rfl rfl (Ox.qa rfl rfl Tryz.underlying3 Tryz.underlying189 rfl (.put rfl) ?_)
 obtain ⟨Be, Se, hM⟩ := aj hM
 refine At.cv XI (aaT (IntKind.wrap .u64 (x0.length : Int))  Se) ?_
 rintro _ _ _ ⟨rfl, rfl, rfl⟩
 obtain ⟨eW, ko, hM⟩ := aj hM
 refine At.step rfl rfl rfl (Ox.cD rfl rfl rfl rfl NQ rfl rfl ((aB.hole (G := (λ X => X ++ (H))) .id (ayd 12 x0 0 (x0.length : Int) Be dU ko)).mono ?_))
 rintro _ _ _ ⟨aeb, ⟨rfl, aoC, rfl⟩, rfl⟩
 refine ⟨_, (.put rfl), ?_⟩
 refine er ?_
 obtain rfl := aa hM
 exact At.oc Tryz.func155 .nil (J.drop sr (hk _ _ _ ⟨aeb, ⟨rfl, aoC, rfl⟩, rfl⟩))
theorem axW (x0 : (List Int)) {v0 : Value} {cQ : ak} (dU : bg CZ 1 3 R v0 x0 cQ) {r : (List Int)} (hM : xl x0 = some r) : aB ah 156 #[v0] R (cQ ++ H) (λ v R' H' => ∃ bF, (R = R' ∧ bg CZ 1 3 R' v r bF) ∧ H' = bF ++ H) := by
 unfold xl at hM
 refine aB.bk Tryz.func156 rfl (n := 61) rfl rfl λ fr cs hk => ?_
 refine sg aQ ?_
 refine vs 1 ?_
 refine es ?_
 refine sg aT ?_
 refine vs 1 ?_
 refine At.s rfl rfl (Ox.Gv rfl rfl dU Tryz.underlying25 rfl (.put rfl) ?_)
 refine vs 1 ?_
 refine er ?_
 refine sc hM (λ FB hM => ?_) (λ FB hM => ?_)
 ·refine sg aR ?_
  refine vs 2 ?_
  refine er ?_
  obtain rfl := aa hM
  exact rt Tryz.func156 (.tmp rfl .nil) sr (hk _ _ _ ⟨cQ, ⟨rfl, dU⟩, rfl⟩)
 refine sp ?_
 refine sq ?_
 refine sg aQ ?_
 refine vs 1 ?_
 refine er ?_
 refine At.block ?_
 refine At.eR hM (λ (kV : Int) R' H' st' => R = R' ∧ H' = cQ ++ (H) ∧ aF st' [(0, v0), (3, iv kV)]) (λ (abq : Unit) R' H' st' => R = R' ∧ H' = cQ ++ (H) ∧ aF st' [(0, v0)]) 0 rfl ⟨rfl, rfl, ay.sub ⟨rfl, rfl, trivial⟩⟩ ?_ ?_
 rotate_right
 ·rintro kV aFq aDt aOQ ⟨rfl, rfl, ao4⟩ gK hM aeX ahJ azM
  refine At.sub ao4 ?_
  refine sq ?_
  refine sg bw ?_
  refine vs 2 ?_
  refine At.s rfl rfl (Ox.Gv rfl rfl dU Tryz.underlying25 rfl (.put rfl) ?_)
  refine vs 1 ?_
  refine er ?_
  refine sc hM (λ QN hM => ?_) (λ QN hM => ?_)
  ·refine sp ?_
   refine sq ?_
   refine At.block ?_
   refine sq ?_
   refine At.dw mS mixed ?_
   refine Any.vs 2 [0, 1] rfl ?_
   obtain ⟨UK, atJ, hM⟩ := aj hM
   obtain ⟨HH, Sg, hM⟩ := aj hM
   obtain ⟨aIW, aNP, _, rfl, ajQ, aml⟩ := (dU.rd (λ _ h => (List.mem_append_left _ h))).elem bm atJ
   refine Any.tk 2 rfl pp (λ R' H' hR hS => Ox.aX rfl rfl rfl aml rfl (.one rfl) ⟨rfl, rfl, rfl⟩) ?_
   refine Any.tk 3 rfl pp (λ R' H' hR hS => Ox.bu rfl rfl aV (((ajQ.le hR).sub (λ p h => hS p (pp p h))).one (j := 0) rfl) rfl (.one rfl) ⟨rfl, rfl, rfl⟩) ?_
   refine Any.vs 3 [4, 5, 6] rfl ?_
   obtain ⟨aIX, aNQ, _, rfl, ajR, amm⟩ := (dU.rd (λ _ h => (List.mem_append_left _ h))).elem bm Sg
   refine Any.tk 7 rfl pp (λ R' H' hR hS => Ox.aX rfl rfl rfl amm rfl (.one rfl) ⟨rfl, rfl, rfl⟩) ?_
   refine Any.tk 8 rfl pp (λ R' H' hR hS => Ox.bu rfl rfl aV (((ajR.le hR).sub (λ p h => hS p (pp p h))).one (j := 0) rfl) rfl (.one rfl) ⟨rfl, rfl, rfl⟩) ?_
   refine Any.vs 1 [9] rfl ?_
   refine Any.done ?_
   refine sc hM (λ arj hM => ?_) (λ arj hM => ?_)
   ·refine sg bw ?_
    refine vs 2 ?_
    obtain ⟨LR, ZQ, hM⟩ := aj hM
    refine At.s rfl rfl (Ox.EB rfl rfl rfl rfl (dU.acs bm ZQ) rfl (.put rfl) ?_)
    refine vs 1 ?_
    refine es ?_
    refine sg aQ ?_
    refine vs 1 ?_
    refine er ?_
    refine At.block ?_
    refine At.eI hM (λ (gF : ((List Int) × Int × Int)) R' H' st' => R = R' ∧ ∃ D4, bg CZ 1 3 R' v0 gF.1 D4 ∧ H' = D4 ++ (H) ∧ aF st' [(0, v0), (3, iv gF.2.1), (4, (pM v0 kV.toNat 1)), (5, iv gF.2.2)]) (λ (sW : ((List Int) × Int)) R' H' st' => R = R' ∧ ∃ Mt, bg CZ 1 3 R' v0 sW.1 Mt ∧ H' = Mt ++ (H) ∧ aF st' [(0, v0), (3, iv sW.2)]) 2 rfl ⟨rfl, cQ, dU, rfl, ay.sub ⟨rfl, rfl, rfl, rfl, trivial⟩⟩ ?_ ?_
    rotate_right
    ·rintro gF aFI aDL aPa ⟨rfl, D4, zh, rfl, apo⟩ HI hM Wk ahP
     refine At.sub apo ?_
     refine sq ?_
     refine sg bw ?_
     refine vs 2 ?_
     refine At.s rfl rfl (Ox.axh rfl rfl zh Tryz.underlying25 rfl (.put rfl) ?_)
     refine vs 1 ?_
     refine er ?_
     refine sc hM (λ QT hM => ?_) (λ QT hM => ?_)
     ·refine sp ?_
      refine sq ?_
      refine At.block ?_
      refine sq ?_
      refine At.dw mS mixed ?_
      refine Any.vs 2 [0, 1] rfl ?_
      obtain ⟨Bf, Si, hM⟩ := aj hM
      obtain ⟨HK, Sj, hM⟩ := aj hM
      obtain ⟨aI5, aNY, _, rfl, ajZ, amv⟩ := (zh.view (lo := kV.toNat) (λ _ h => (List.mem_append_left _ h))).elem bm Si
      refine Any.tk 2 rfl pp (λ R' H' hR hS => Ox.aX rfl rfl rfl amv rfl (.one rfl) ⟨rfl, rfl, rfl⟩) ?_
      refine Any.tk 3 rfl pp (λ R' H' hR hS => Ox.bu rfl rfl aV (((ajZ.le hR).sub (λ p h => hS p (pp p h))).one (j := 0) rfl) rfl (.one rfl) ⟨rfl, rfl, rfl⟩) ?_
      refine Any.vs 3 [4, 5, 6] rfl ?_
      obtain ⟨aI6, aNZ, _, rfl, aj0, amw⟩ := (zh.view (lo := kV.toNat) (λ _ h => (List.mem_append_left _ h))).elem bm Sj
      refine Any.tk 7 rfl pp (λ R' H' hR hS => Ox.aX rfl rfl rfl amw rfl (.one rfl) ⟨rfl, rfl, rfl⟩) ?_
      refine Any.tk 8 rfl pp (λ R' H' hR hS => Ox.bu rfl rfl aV (((aj0.le hR).sub (λ p h => hS p (pp p h))).one (j := 0) rfl) rfl (.one rfl) ⟨rfl, rfl, rfl⟩) ?_
      refine Any.vs 1 [9] rfl ?_
      refine Any.done ?_
      refine sc hM (λ QW hM => ?_) (λ QW hM => ?_)
      ·refine sg eK ?_
       refine vs 4 ?_
       obtain ⟨ri, F8, hM⟩ := aj hM
       obtain ⟨Dz, Sk, hM⟩ := aj hM
       obtain ⟨afW, az1, _, rfl, O6, Pv⟩ := (zh.view (lo := kV.toNat) (λ _ h => (List.mem_append_left _ h))).elem bm F8
       refine At.s rfl rfl (Ox.aX rfl rfl rfl Pv rfl (.put rfl) ?_)
       refine At.ld aV ((O6.sub pp).one (j := 0) rfl) ?_
       obtain ⟨afX, aKz, _, rfl, rfl, Y7, alo, Pw, aL2, av0, asx⟩ := zh.eu bm Sk
       refine At.s rfl rfl (Ox.aX rfl rfl rfl Pw rfl (.put rfl) ?_)
       refine At.s rfl rfl (Ox.eC (K := CZ) (k := 1) (e := 3) (i := gF.2.1) (x' := ri) (pre := []) (mid := [iv Dz]) (post := []) .id rfl rfl rfl rfl eV rfl (aq rfl aW) alo rfl rfl rfl av0 asx rfl rfl (.refl _) λ adZ aoj => ?_)
       refine er ?_
       refine At.rg aT ?_
       refine vs 3 ?_
       refine er ?_
       refine At.inBlock ?_
       refine At.rg aT ?_
       refine vs 3 ?_
       refine er ?_
       exact Wk _ (aa hM).symm _ _ _ ⟨rfl, adZ, aoj, rfl, ay.sub ⟨rfl, rfl, rfl, rfl, trivial⟩⟩
      refine sp ?_
      refine At.inBlock ?_
      refine At.rg aT ?_
      refine vs 3 ?_
      refine er ?_
      exact Wk _ (aa hM).symm _ _ _ ⟨rfl, D4, zh, rfl, ay.sub ⟨rfl, rfl, rfl, rfl, trivial⟩⟩
     exact At.exit rfl (ahP _ (aa hM).symm _ _ _ ⟨rfl, D4, zh, rfl, ay.sub ⟨rfl, rfl, trivial⟩⟩)
    rintro sW aFJ aDM aPb ⟨rfl, Mt, Zj, rfl, apq⟩ hM
    refine At.sub apq ?_
    refine sg bw ?_
    refine vs 2 ?_
    obtain ⟨LS, Ke, hM⟩ := aj hM
    refine At.s rfl rfl (Ox.EB rfl rfl rfl rfl (Zj.acs bm Ke) rfl (.put rfl) ?_)
    refine At.s rfl rfl (Ox.agi (λ X => X ++ (H)) rfl rfl bm rC .id Zj (ago Ke) rfl λ aed aoD => ⟨_, (.non rfl), ?_⟩)
    refine nx bw ?_
    refine vs 2 ?_
    obtain ⟨UQ, atY, hM⟩ := aj hM
    obtain ⟨aQP, aoE, anv⟩ := aoD.front bm atY
    refine At.s rfl rfl (Ox.EB rfl rfl rfl rfl anv rfl (.put rfl) ?_)
    refine vs 1 ?_
    refine er ?_
    replace hM := azM _ (aa hM).symm
    obtain rfl := aa hM
    exact rt Tryz.func156 (.tmp rfl .nil) sr (hk _ _ _ ⟨aed, ⟨rfl, aoE⟩, rfl⟩)
   refine sp ?_
   refine At.inBlock ?_
   refine At.rg aT ?_
   refine vs 3 ?_
   refine er ?_
   exact aeX _ (aa hM).symm _ _ _ ⟨rfl, rfl, ay.sub ⟨rfl, rfl, trivial⟩⟩
  exact At.exit rfl (ahJ _ (aa hM).symm _ _ _ ⟨rfl, rfl, ay.sub ⟨rfl, trivial⟩⟩)
 rintro abq aFr aDu aOR ⟨rfl, rfl, ao5⟩ hM
 refine At.sub ao5 ?_
 refine sg aR ?_
 refine vs 2 ?_
 refine er ?_
 obtain rfl := aa hM
 exact rt Tryz.func156 (.tmp rfl .nil) sr (hk _ _ _ ⟨cQ, ⟨rfl, dU⟩, rfl⟩)
theorem aaO (x0 : cR) (x1 : (bn → Option Int)) {aG aI aM iE jE v1 : Value} (_ : az bI 5 R aG x0.book.au) (_ : az CZ 1 R aI x0.book.Out) (_ : az bB 2 R aM x0.book.aU) (lz : az fM 6 R iE x0.dI) (_ : m8 R jE x0.nR) (h1 : nZ ah R H (j5 fM) (VI .i64) v1 x1) {r : (List Int)} (hM : xe x0 x1 = some r) : aB ah 128 #[.agg #[iv x0.book.aD, iv x0.book.af.ao, iv x0.book.af.ax, aG, aI, aM, iE, jE], v1] R H (λ v R' H' => aO R R' ∧ H = H' ∧ ∃ eP, az CZ 1 R' eP r ∧ v = eP) := by
 unfold xe at hM
 refine aB.bk Tryz.func128 rfl (n := 26) rfl rfl λ fr cs hk => ?_
 refine sg aR ?_
 refine bx λ mb => ?_
 refine vs 1 ?_
 refine nx aQ ?_
 refine vs 1 ?_
 refine es ?_
 refine sg bw ?_
 refine vs 1 ?_
 refine ld 6 qK z0 ?_
 refine ls lz Tryz.underlying103 ?_
 refine vs 1 ?_
 refine er ?_
 refine At.block ?_
 refine At.drop (H' := H) (so sr) ?_
 refine At.eI hM (λ (mT : ((List Int) × Int)) R' H' st' => aO R R' ∧ ∃ Lo Il, bg CZ 1 3 R' Lo mT.1 Il ∧ H' = Il ++ (H) ∧ aF st' [(1, v1), (5, Lo), (9, iE), (10, iv (x0.dI.length : Int)), (11, iv mT.2)]) (λ (AH : (List Int)) R' H' st' => aO R R' ∧ ∃ Un Mw, bg CZ 1 3 R' Un AH Mw ∧ H' = Mw ++ (H) ∧ aF st' [(5, Un)]) 0 rfl ⟨rr, .slice none 0 0, [], bg.nil, rfl, ay.sub ⟨rfl, rfl, rfl, rfl, rfl, trivial⟩⟩ ?_ ?_
 rotate_right
 ·rintro mT R50 H50 aPO ⟨Jz, Lo, Il, JZ, rfl, ap3⟩ oS hM afj ahZ
  refine At.sub ap3 ?_
  replace lz := lz.mono Jz
  replace h1 := h1.up Jz pp
  refine sg aQ ?_
  refine vs 1 ?_
  refine es ?_
  refine sc hM (λ uA hM => ?_) (λ uA hM => ?_)
  ·refine sp ?_
   refine sq ?_
   refine At.block ?_
   refine sg bw ?_
   obtain ⟨kA, zS, hM⟩ := aj hM
   obtain ⟨WL, abp, _, ⟨Ab, rfl⟩, E4, E9⟩ := lz.elem Lb zS
   refine At.s rfl rfl (Ox.aX rfl rfl rfl E9 rfl (.put rfl) ?_)
   refine At.s rfl rfl (Ox.ck (vs := _) rfl rfl eG (by simp [Ab]) (E4.any.part (j := 0) (n := 6) (ee (by simp [Ab]))) rfl (.put rfl) ?_)
   refine At.s rfl rfl (Ox.alloc (cs := (List.toArray ([iv 0] ++ ([0, 0, 0, 0, 0].map (Value.int .i64) ++ [])))) rfl yp rfl λ rS _ _ => ⟨_, (.put rfl), ?_⟩)
   refine At.s rfl rfl (Ox.bG (cs' := _) rfl rfl rfl eG (by simp [Ab]) (cr (aq rfl aW) (cr (ew λ _ => rfl) aW)) .here (by simp) (dZ (by simp [Ab])) rfl (.refl _) ?_)
   refine er ?_
   refine At.rg fe ?_
   refine vs 2 ?_
   refine At.s rfl rfl (Ox.ck (vs := _) rfl rfl eG (by simp [Ab]) ((aS.box z0).part (j := 0) (n := 6) (ee (by simp [Ab]))) rfl (.put rfl) ?_)
   obtain ⟨fE, zU, hM⟩ := aj hM
   refine At.step rfl rfl rfl (Ox.BN h1 rfl rfl rfl ⟨_, rfl, ⟨Ab, rfl⟩⟩ zU rfl (su (so (aH sr))) ?_)
   rintro _ aHY OR rfl
   replace h1 := h1.up OR pp
   replace JZ := JZ.mono OR
   refine ⟨_, (.put rfl), ?_⟩
   refine At.s rfl rfl (Ox.buildSlice (cells := #[_]) rfl cW rfl (by decide) en (bq rfl rfl rfl rfl bD) rfl λ b73 _ _ => ⟨_, (.put rfl), ?_⟩)
   obtain ⟨iF, qz, hM⟩ := aj hM
   refine At.s rfl rfl (Ox.append (K := CZ) (λ X => (b73, _) :: (rS, _) :: X ++ (H)) rfl rfl rfl iZ Tryz.underlying25 (by simp) (.cons (.cons .id)) JZ (dR.lit z0 (aK.le (aK.cons (x := fE) rfl rfl aK.nil) rfl) rfl) qz rfl λ tn MC uv => ⟨_, (.put rfl), ?_⟩)
   refine vs 1 ?_
   refine er ?_
   refine At.inBlock ?_
   refine At.rg aR ?_
   refine vs 2 ?_
   refine er ?_
   exact At.drop (so (so sr)) (afj _ (aa hM).symm _ _ _ ⟨(Jz.trans OR), tn, MC, uv, rfl, ay.sub ⟨rfl, rfl, rfl, rfl, rfl, trivial⟩⟩)
  exact At.exit rfl (ahZ _ (aa hM).symm _ _ _ ⟨Jz, Lo, Il, JZ, rfl, ay.sub ⟨rfl, trivial⟩⟩)
 rintro AH aGj aEn aPP ⟨ai2, Un, Mw, anV, rfl, ap4⟩ hM
 refine At.sub ap4 ?_
 refine sg aR ?_
 refine vs 1 ?_
 obtain ⟨k9, sJ, hM⟩ := aj hM
 refine At.step rfl rfl rfl (Ox.cD rfl rfl rfl rfl agN rfl rfl ((aB.hole (G := (λ X => X ++ (H))) .id (axU AH anV sJ)).mono ?_))
 rintro _ _ _ ⟨tP, ⟨rfl, qq, rfl⟩, rfl⟩
 refine ⟨_, (.put rfl), ?_⟩
 refine nx aT ?_
 refine vs 1 ?_
 obtain ⟨rA, Gl, hM⟩ := aj hM
 refine At.step rfl rfl rfl (Ox.cD rfl rfl rfl rfl agO rfl rfl ((aB.hole (G := (λ X => X ++ (H))) .id (axW k9 qq Gl)).mono ?_))
 rintro AX _ _ ⟨pX, ⟨rfl, qs⟩, rfl⟩
 refine ⟨_, (.put rfl), ?_⟩
 refine vs 1 ?_
 refine er ?_
 refine At.fY (H2 := H) (λ X => X ++ (H)) .id rfl qs (λ aHb ajb ak3 => ?_)
 obtain rfl := aa hM
 exact rt Tryz.func128 (.tmp rfl .nil) sr (hk _ _ _ ⟨(ai2.trans ajb), rfl, AX, ak3, rfl⟩)
theorem axF (x0 : bn) (x1 : Int) {b1 : Nat} (ga : x0.weights.length = 5) (cK : aS R H b1 0 [iv x1]) {r : Int} (hM : Af x0 x1 = some r) : aB ah 129 #[.agg (List.toArray ([iv x0.fq] ++ (x0.weights.map (Value.int .i64) ++ []))), .pointer (some ⟨b1, 0, none⟩)] R H (λ v R' H' => R = R' ∧ H = H' ∧ v = iv r) := by
 unfold Af at hM
 refine aB.bk Tryz.func129 rfl (n := 8) rfl rfl λ fr cs hk => ?_
 refine sg aR ?_
 refine bx λ kG => ?_
 refine vs 1 ?_
 refine nx cB ?_
 refine At.ld aV ((cK.sub (su (so sr))).one (j := 0) rfl) ?_
 refine vs 1 ?_
 obtain ⟨eW, ko, hM⟩ := aj hM
 refine At.s rfl rfl (Ox.aX rfl rfl rfl (sL Er ga ko) rfl (.put rfl) ?_)
 refine At.ld aV ((aS.box z0).arr ko rfl) ?_
 refine vs 1 ?_
 refine er ?_
 obtain rfl := aa hM
 exact rt Tryz.func129 (.tmp rfl .nil) (so sr) (hk _ _ _ ⟨rfl, rfl, rfl⟩)
end
end Go.Proofs.YtabamagholjdcaaGreatDoor
