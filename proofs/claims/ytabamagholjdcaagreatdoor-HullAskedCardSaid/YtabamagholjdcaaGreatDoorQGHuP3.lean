/- Walks, part 3: each function computes its model. -/
import Derived.Test.YtabamagholjdcaaGreatDoorQGHuP2
namespace Go.Proofs.YtabamagholjdcaaGreatDoor
open Go.Lg Go.Proofs
set_option maxRecDepth 100000
set_option maxHeartbeats 4000000
section
variable {B : Base} {main : Bool} {ah : Jd Tryz.prog B main} {R : aA} {H : ak}
theorem axS {S : Type} {ys : (List Int) → S → Option (S × Bool)} {vY : Value} (k : Nat) : ∀ {Inv : S → aA → ak → Prop} {R : aA} {Hy : ak} (_ : iH ah R (Ej CZ 1) vY ys Inv) (x0 : (List Int)) (x1 : (List Bool)) (x2 : av) {s0 : S} (_ : Inv s0 R Hy) {v0 ve vf vg : Value} {b2 b3 b4 : Nat} (_ : az CZ 1 R v0 x0) (_ : x1.length = 5) (_ : aS R [] b2 0 [iv x2.aD, iv x2.af.ao, iv x2.af.ax, ve, vf, vg]) (_ : az bI 5 R ve x2.au) (_ : az CZ 1 R vf x2.Out) (_ : az bB 2 R vg x2.aU) (_ : aS R [] b3 0 [vY]) (_ : aS R [] b4 0 [.func (.func 152) #[] #[.pointer (some ⟨b2, 0, none⟩), .pointer (some ⟨b3, 0, none⟩), .pointer (some ⟨b4, 0, none⟩)]]) {r : (S × Bool)} (_ : Ai ys k x0 x1 x2 s0 = some r), aB ah 152 #[v0, .agg (List.toArray ([] ++ (x1.map Value.bool ++ []))), .pointer (some ⟨b2, 0, none⟩), .pointer (some ⟨b3, 0, none⟩), .pointer (some ⟨b4, 0, none⟩)] R Hy (λ v R' H' => aO R R' ∧ Inv r.1 R' H' ∧ v = .bool r.2) := by
 induction k with
 | zero => intro Inv R Hy hY x0 x1 x2 s0 hI v0 ve vf vg b2 b3 b4 h0 l1 bC b7 b8 b9 bO cj r hM; exact absurd hM (by simp [Ai])
 | succ k ih =>
  intro Inv R Hy hY x0 x1 x2 s0 hI v0 ve vf vg b2 b3 b4 h0 l1 bC b7 b8 b9 bO cj r hM
  rw [Ai] at hM
  refine aB.bk Tryz.func152 rfl (n := 39) rfl rfl λ fr cs hk => ?_
  refine sg aR ?_
  refine bx λ cq => ?_
  refine vs 1 ?_
  refine es ?_
  obtain ⟨cy, eN, hM⟩ := aj hM
  refine At.rg bw ?_
  refine At.s rfl rfl (Ox.ck (vs := [_, _, _, _, _, _]) rfl rfl dS rfl (bC.any.part (j := 0) (n := 6) rfl) rfl (.put rfl) ?_)
  refine At.s rfl rfl (Ox.ck (vs := _) rfl rfl c8 (by simp [l1]) ((aS.box z0).part (j := 0) (n := 5) (ee (by simp [l1]))) rfl (.put rfl) ?_)
  refine At.cv N1 (TB x2 x1 b7 b8 b9 l1 eN) ?_
  rintro Lx BH _ ⟨fZ, rfl, _, cN, rfl⟩
  replace h0 := h0.mono fZ
  replace b7 := b7.mono fZ
  replace b8 := b8.mono fZ
  replace b9 := b9.mono fZ
  replace hI := hY.mono (rr) fZ hI
  replace bC := bC.up (H := []) fZ
  replace bO := bO.up (H := []) fZ
  replace cj := cj.up (H := []) fZ
  replace hY := hY.up fZ
  refine vs 1 ?_
  refine es ?_
  refine sg aT ?_
  refine vs 1 ?_
  refine ls cN Tryz.underlying25 ?_
  refine vs 1 ?_
  refine er ?_
  refine sc hM (λ mF hM => ?_) (λ mF hM => ?_)
  ·refine sq ?_
   obtain ⟨fC, oq, hM⟩ := aj hM
   refine At.rg bw ?_
   refine At.ld azI (bO.any.one (j := 0) rfl) ?_
   refine vs 1 ?_
   refine At.Uf rfl rfl rfl rfl rfl rfl rfl rfl ((hY.call [(cq, _)] (rr) hI h0 oq).mono ?_)
   rintro _ aHx _ ⟨JF, rfl, aer, aiS, Om⟩
   replace Om : _ = (cq, _) :: aer := Om
   subst Om
   replace h0 := h0.mono JF
   replace bO := bO.up (H := []) JF
   replace hY := hY.up JF
   refine ⟨_, (.put rfl), ?_⟩
   refine vs 1 ?_
   refine er ?_
   obtain rfl := aa hM
   exact rt Tryz.func152 (.tmp rfl .nil) (so sr) (hk _ _ _ ⟨(fZ.trans JF), aiS, rfl⟩)
  refine sp ?_
  refine sq ?_
  refine sg aT ?_
  refine vs 1 ?_
  refine ls cN Tryz.underlying25 ?_
  refine vs 1 ?_
  refine er ?_
  refine At.block ?_
  refine At.eR hM (λ (lQ : (S × Int)) R' H' st' => aO BH R' ∧ ∃ fH, Inv lQ.1 R' fH ∧ H' = (cq, .cells (List.toArray ([] ++ (x1.map Value.bool ++ []))) 112) :: fH ∧ aF st' [(0, v0), (4, .pointer (some ⟨b4, 0, none⟩)), (6, .pointer (some ⟨cq, 0, none⟩)), (20, Lx), (21, iv (cy.length : Int)), (22, iv lQ.2)]) (λ (lP : S) R' H' st' => aO BH R' ∧ ∃ yD, Inv lP R' yD ∧ yD = H' ∧ aF st' []) 0 rfl ⟨rr, Hy, hI, rfl, ay.sub ⟨rfl, rfl, rfl, rfl, rfl, rfl, trivial⟩⟩ ?_ ?_
  rotate_right
  ·rintro lQ R27 H27 aPr ⟨o7, fH, dY, rfl, apG⟩ k6 hM afb Jm azR
   refine At.sub apG ?_
   replace h0 := h0.mono o7
   replace b7 := b7.mono o7
   replace b8 := b8.mono o7
   replace b9 := b9.mono o7
   replace bC := bC.up (H := []) o7
   replace bO := bO.up (H := []) o7
   replace cj := cj.up (H := []) o7
   replace cN := cN.mono o7
   replace hY := hY.up o7
   refine sg aQ ?_
   refine vs 1 ?_
   refine es ?_
   refine sc hM (λ FQ hM => ?_) (λ FQ hM => ?_)
   ·refine sp ?_
    refine sq ?_
    refine At.block ?_
    refine sq ?_
    obtain ⟨dH, SG, hM⟩ := aj hM
    refine At.rg aT ?_
    obtain ⟨aJR, aOu, _, rfl, aku, ane⟩ := cN.elem bm SG
    refine At.s rfl rfl (Ox.aX rfl rfl rfl ane rfl (.put rfl) ?_)
    refine At.ld aV (aku.any.one (j := 0) rfl) ?_
    refine vs 1 ?_
    refine es ?_
    obtain ⟨k7, uH, hM⟩ := aj hM
    obtain ⟨jI, sH, hM⟩ := aj hM
    obtain ⟨dP, sI, hM⟩ := aj hM
    obtain ⟨tE, wR, hM⟩ := aj hM
    refine At.cut (λ R' H' st' => aO R27 R' ∧ ∃ (fI : ak), Inv tE.1 R' fI ∧ H' = (cq, .cells (List.toArray ([] ++ (x1.map Value.bool ++ []))) 112) :: fI ∧ aF st' [(0, v0), (4, .pointer (some ⟨b4, 0, none⟩)), (6, .pointer (some ⟨cq, 0, none⟩)), (20, Lx), (21, iv (cy.length : Int)), (22, iv lQ.2), (37, .bool (!tE.2))]) ?_ ?_
    ·rintro aGO aEU aQB ⟨qf, fI, kg, rfl, aqQ⟩
     refine At.sub aqQ ?_
     replace h0 := h0.mono qf
     replace b7 := b7.mono qf
     replace b8 := b8.mono qf
     replace b9 := b9.mono qf
     replace bC := bC.up (H := []) qf
     replace bO := bO.up (H := []) qf
     replace cj := cj.up (H := []) qf
     replace cN := cN.mono qf
     replace hY := hY.up qf
     refine sc hM (λ qu hM => ?_) (λ qu hM => ?_)
     ·refine sg aQ ?_
      refine vs 1 ?_
      refine er ?_
      replace hM := azR _ (aa hM).symm
      obtain rfl := aa hM
      exact rt Tryz.func152 (.tmp rfl .nil) (so sr) (hk _ _ _ ⟨((fZ.trans o7).trans qf), kg, rfl⟩)
     refine sp ?_
     refine At.inBlock ?_
     refine At.rg aR ?_
     refine vs 2 ?_
     refine er ?_
     exact afb _ (aa hM).symm _ _ _ ⟨(o7.trans qf), fI, kg, rfl, ay.sub ⟨rfl, rfl, rfl, rfl, rfl, rfl, trivial⟩⟩
    intro wv
    refine At.draw (n := 12) (is := [0, 1, 2, 3, 4, 5, 6, 7, 8, 9, 10, 11]) (λ _ => (cq, .cells (List.toArray ([] ++ (x1.map Value.bool ++ []))) 112) :: []) mixed rfl (by decide +kernel) rfl rfl ?_
    refine ts 0 [10, 11] rfl (λ _ _ _ _ _ h => h) (su (sk sn)) (λ R' H' hR hS => Ox.bu rfl rfl TM ((cj.up hR).one (j := 0) rfl) rfl (.one rfl) ⟨rfl, rfl, rfl⟩) ?_
    refine Any.vs 2 [1, 3] rfl ?_
    refine ts 6 [9, 10, 11] rfl (λ _ _ _ _ _ h => h) (su (sk sn)) (λ R' H' hR hS => Ox.ck (vs := _) rfl rfl c8 (by simp [l1]) ((aS.box (hS _ z0)).part (j := 0) (n := 5) (ee (by simp [l1]))) rfl (.one rfl) ⟨rfl, rfl, rfl⟩) ?_
    refine Any.vs 1 [7] rfl ?_
    refine Any.ab8 (i := 2) (j := 4) (l := 8) (ra := [4, 5, 8, 9, 10, 11]) (rb := [2, 5, 8, 9, 10, 11]) (rc := [2, 4, 5, 9, 10, 11]) rfl rfl rfl (by decide +kernel) rfl rfl rfl (by decide) rfl rfl rfl ?_ ?_ ?_
    ·refine  (Ox.cD rfl rfl rfl rfl vV rfl rfl ((xd x0 h0.rd uH).mono ?_))
     rintro LB IJ _ ⟨cu, _, Iu, o9, rfl, rfl⟩
     replace h0 := h0.mono cu
     replace b7 := b7.mono cu
     replace b8 := b8.mono cu
     replace b9 := b9.mono cu
     replace dY := hY.mono (rr) cu dY
     replace bC := bC.up (H := []) cu
     replace bO := bO.up (H := []) cu
     replace cj := cj.up (H := []) cu
     replace cN := cN.mono cu
     replace hY := hY.up cu
     refine ⟨_, (.put rfl), ⟨cu, (ku (aH (sk sn))), ?_⟩⟩
     refine tw 4 8 ?_ ?_
     ·refine  (aP.to (Ox.buildSlice (cells := #[_]) rfl cW rfl (by decide) en (bq rfl rfl rfl rfl bD) rfl λ cS _ _ => ⟨_, (.put rfl), ⟨rr, (ku (so (aH (sk sn)))), ?_⟩⟩))
      refine tw 5 8 ?_ ?_
      ·refine  (aP.to (Ox.append (K := CZ) (λ X => (cS, _) :: X ++ ((cq, _) :: fH)) rfl rfl rfl iZ Tryz.underlying25 (by simp) (.cons .id) o9 (dR.lit z0 (aK.le (aK.cons (x := dH) rfl rfl aK.nil) rfl) rfl) sH rfl λ AW yC mC => ⟨_, (.put rfl), ⟨rr, (ku (so (aH (sk sn)))), ?_⟩⟩))
       refine Any.on 8 rfl rfl (aP.to (Ox.buildSlice (cells := #[_]) rfl cW rfl (by decide) en (bq rfl rfl rfl rfl bD) rfl λ cM _ _ => ⟨_, (.put rfl), ⟨rr, (ku (so (so (aH (sk sn))))), ?_⟩⟩))
       refine Any.cv 9 fX (gb x1 [dH] l1 (bV.lit z0 (aK.le (aK.cons (x := dH) rfl rfl aK.nil) rfl) rfl) sI) ?_
       rintro _ _ _ ⟨rfl, rfl, mM, rfl⟩
       refine ⟨rr, (ku (so (so (aH (sk sn))))), ?_⟩
       refine Any.fY (H2 := (cM, _) :: (cS, _) :: (cq, _) :: fH) (λ X => (cM, _) :: (cS, _) :: X ++ ((cq, _) :: fH)) (.cons (.cons .id)) rfl mC (by decide) (by decide) (λ _ => (su (so (so (sk sn))))) (λ yG bK eU => ?_)
       replace h0 := h0.mono bK
       replace b7 := b7.mono bK
       replace b8 := b8.mono bK
       replace b9 := b9.mono bK
       replace dY := hY.mono (rr) bK dY
       replace bC := bC.up (H := []) bK
       replace bO := bO.up (H := []) bK
       replace cj := cj.up (H := []) bK
       replace cN := cN.mono bK
       replace hY := hY.up bK
       refine Any.on 10 rfl rfl (Ox.cD rfl rfl rfl rfl tY rfl rfl ((ih (hY.frame [(cM, _), (cS, _), (cq, _)]) jI dP x2 ⟨_, dY, rfl⟩ eU mM bC.any b7 b8 b9 bO cj wR).mono ?_))
       rintro _ yJ _ ⟨bE, ⟨fI, kg, eT⟩, rfl⟩
       replace eT : _ = (cM, _) :: (cS, _) :: (cq, _) :: fI := eT
       subst eT
       replace h0 := h0.mono bE
       replace b7 := b7.mono bE
       replace b8 := b8.mono bE
       replace b9 := b9.mono bE
       replace bC := bC.up (H := []) bE
       replace bO := bO.up (H := []) bE
       replace cj := cj.up (H := []) bE
       replace eU := eU.mono bE
       replace cN := cN.mono bE
       replace hY := hY.up bE
       refine ⟨_, (.put rfl), ⟨bE, (ku (so (so (sk sn)))), ?_⟩⟩
       refine Any.vs 1 [11] rfl ?_
       exact Any.done (At.drop (so (so sr)) (wv _ _ _ ⟨((cu.trans bK).trans bE), fI, kg, rfl, ay.sub ⟨rfl, rfl, rfl, rfl, rfl, rfl, rfl, trivial⟩⟩))
      refine  (aP.to (Ox.buildSlice (cells := #[_]) rfl cW rfl (by decide) en (bq rfl rfl rfl rfl bD) rfl λ cM _ _ => ⟨_, (.put rfl), ⟨rr, (ku (so (so (aH (sk sn))))), ?_⟩⟩))
      refine Any.on 5 rfl rfl (aP.to (Ox.append (K := CZ) (λ X => (cM, _) :: (cS, _) :: X ++ ((cq, _) :: fH)) rfl rfl rfl iZ Tryz.underlying25 (by simp) (.cons (.cons .id)) o9 (dR.lit z1 (aK.le (aK.cons (x := dH) rfl rfl aK.nil) rfl) rfl) sH rfl λ AW yC mC => ⟨_, (.put rfl), ⟨rr, (ku (so (so (aH (sk sn))))), ?_⟩⟩))
      refine Any.cv 9 fX (gb x1 [dH] l1 (bV.lit z0 (aK.le (aK.cons (x := dH) rfl rfl aK.nil) rfl) rfl) sI) ?_
      rintro _ _ _ ⟨rfl, rfl, mM, rfl⟩
      refine ⟨rr, (ku (so (so (aH (sk sn))))), ?_⟩
      refine Any.fY (H2 := (cM, _) :: (cS, _) :: (cq, _) :: fH) (λ X => (cM, _) :: (cS, _) :: X ++ ((cq, _) :: fH)) (.cons (.cons .id)) rfl mC (by decide) (by decide) (λ _ => (su (so (so (sk sn))))) (λ yG bK eU => ?_)
      replace h0 := h0.mono bK
      replace b7 := b7.mono bK
      replace b8 := b8.mono bK
      replace b9 := b9.mono bK
      replace dY := hY.mono (rr) bK dY
      replace bC := bC.up (H := []) bK
      replace bO := bO.up (H := []) bK
      replace cj := cj.up (H := []) bK
      replace cN := cN.mono bK
      replace hY := hY.up bK
      refine Any.on 10 rfl rfl (Ox.cD rfl rfl rfl rfl tY rfl rfl ((ih (hY.frame [(cM, _), (cS, _), (cq, _)]) jI dP x2 ⟨_, dY, rfl⟩ eU mM bC.any b7 b8 b9 bO cj wR).mono ?_))
      rintro _ yJ _ ⟨bE, ⟨fI, kg, eT⟩, rfl⟩
      replace eT : _ = (cM, _) :: (cS, _) :: (cq, _) :: fI := eT
      subst eT
      replace h0 := h0.mono bE
      replace b7 := b7.mono bE
      replace b8 := b8.mono bE
      replace b9 := b9.mono bE
      replace bC := bC.up (H := []) bE
      replace bO := bO.up (H := []) bE
      replace cj := cj.up (H := []) bE
      replace eU := eU.mono bE
      replace cN := cN.mono bE
      replace hY := hY.up bE
      refine ⟨_, (.put rfl), ⟨bE, (ku (so (so (sk sn)))), ?_⟩⟩
      refine Any.vs 1 [11] rfl ?_
      exact Any.done (At.drop (so (so sr)) (wv _ _ _ ⟨((cu.trans bK).trans bE), fI, kg, rfl, ay.sub ⟨rfl, rfl, rfl, rfl, rfl, rfl, rfl, trivial⟩⟩))
     refine  (aP.to (Ox.buildSlice (cells := #[_]) rfl cW rfl (by decide) en (bq rfl rfl rfl rfl bD) rfl λ cM _ _ => ⟨_, (.put rfl), ⟨rr, (ku (so (aH (sk sn)))), ?_⟩⟩))
     refine Any.on 4 rfl rfl (aP.to (Ox.buildSlice (cells := #[_]) rfl cW rfl (by decide) en (bq rfl rfl rfl rfl bD) rfl λ cS _ _ => ⟨_, (.put rfl), ⟨rr, (ku (so (so (aH (sk sn))))), ?_⟩⟩))
     refine Any.on 5 rfl rfl (aP.to (Ox.append (K := CZ) (λ X => (cS, _) :: (cM, _) :: X ++ ((cq, _) :: fH)) rfl rfl rfl iZ Tryz.underlying25 (by simp) (.cons (.cons .id)) o9 (dR.lit z0 (aK.le (aK.cons (x := dH) rfl rfl aK.nil) rfl) rfl) sH rfl λ AW yC mC => ⟨_, (.put rfl), ⟨rr, (ku (so (so (aH (sk sn))))), ?_⟩⟩))
     refine Any.cv 9 fX (gb x1 [dH] l1 (bV.lit z1 (aK.le (aK.cons (x := dH) rfl rfl aK.nil) rfl) rfl) sI) ?_
     rintro _ _ _ ⟨rfl, rfl, mM, rfl⟩
     refine ⟨rr, (ku (so (so (aH (sk sn))))), ?_⟩
     refine Any.fY (H2 := (cS, _) :: (cM, _) :: (cq, _) :: fH) (λ X => (cS, _) :: (cM, _) :: X ++ ((cq, _) :: fH)) (.cons (.cons .id)) rfl mC (by decide) (by decide) (λ _ => (su (so (so (sk sn))))) (λ yG bK eU => ?_)
     replace h0 := h0.mono bK
     replace b7 := b7.mono bK
     replace b8 := b8.mono bK
     replace b9 := b9.mono bK
     replace dY := hY.mono (rr) bK dY
     replace bC := bC.up (H := []) bK
     replace bO := bO.up (H := []) bK
     replace cj := cj.up (H := []) bK
     replace cN := cN.mono bK
     replace hY := hY.up bK
     refine Any.on 10 rfl rfl (Ox.cD rfl rfl rfl rfl tY rfl rfl ((ih (hY.frame [(cS, _), (cM, _), (cq, _)]) jI dP x2 ⟨_, dY, rfl⟩ eU mM bC.any b7 b8 b9 bO cj wR).mono ?_))
     rintro _ yJ _ ⟨bE, ⟨fI, kg, eT⟩, rfl⟩
     replace eT : _ = (cS, _) :: (cM, _) :: (cq, _) :: fI := eT
     subst eT
     replace h0 := h0.mono bE
     replace b7 := b7.mono bE
     replace b8 := b8.mono bE
     replace b9 := b9.mono bE
     replace bC := bC.up (H := []) bE
     replace bO := bO.up (H := []) bE
     replace cj := cj.up (H := []) bE
     replace eU := eU.mono bE
     replace cN := cN.mono bE
     replace hY := hY.up bE
     refine ⟨_, (.put rfl), ⟨bE, (ku (so (so (sk sn)))), ?_⟩⟩
     refine Any.vs 1 [11] rfl ?_
     exact Any.done (At.drop (so (so sr)) (wv _ _ _ ⟨((cu.trans bK).trans bE), fI, kg, rfl, ay.sub ⟨rfl, rfl, rfl, rfl, rfl, rfl, rfl, trivial⟩⟩))
    ·refine  (aP.to (Ox.buildSlice (cells := #[_]) rfl cW rfl (by decide) en (bq rfl rfl rfl rfl bD) rfl λ cS _ _ => ⟨_, (.put rfl), ⟨rr, (ku (so (sk sn))), ?_⟩⟩))
     refine tw 2 8 ?_ ?_
     ·refine  (Ox.cD rfl rfl rfl rfl vV rfl rfl ((xd x0 h0.rd uH).mono ?_))
      rintro LB IJ _ ⟨cu, _, Iu, o9, rfl, rfl⟩
      replace h0 := h0.mono cu
      replace b7 := b7.mono cu
      replace b8 := b8.mono cu
      replace b9 := b9.mono cu
      replace dY := hY.mono (rr) cu dY
      replace bC := bC.up (H := []) cu
      replace bO := bO.up (H := []) cu
      replace cj := cj.up (H := []) cu
      replace cN := cN.mono cu
      replace hY := hY.up cu
      refine ⟨_, (.put rfl), ⟨cu, (ku (aH (so (sk sn)))), ?_⟩⟩
      refine tw 5 8 ?_ ?_
      ·refine  (aP.to (Ox.append (K := CZ) (λ X => X ++ ((cS, _) :: (cq, _) :: fH)) rfl rfl rfl iZ Tryz.underlying25 (by simp) .id o9 (dR.lit (List.mem_append_right _ z0) (aK.le (aK.cons (x := dH) rfl rfl aK.nil) rfl) rfl) sH rfl λ AW yC mC => ⟨_, (.put rfl), ⟨rr, (ku (aH (so (sk sn)))), ?_⟩⟩))
       refine Any.on 8 rfl rfl (aP.to (Ox.buildSlice (cells := #[_]) rfl cW rfl (by decide) en (bq rfl rfl rfl rfl bD) rfl λ cM _ _ => ⟨_, (.put rfl), ⟨rr, (ku (so (aH (so (sk sn))))), ?_⟩⟩))
       refine Any.cv 9 fX (gb x1 [dH] l1 (bV.lit z0 (aK.le (aK.cons (x := dH) rfl rfl aK.nil) rfl) rfl) sI) ?_
       rintro _ _ _ ⟨rfl, rfl, mM, rfl⟩
       refine ⟨rr, (ku (so (aH (so (sk sn))))), ?_⟩
       refine Any.fY (H2 := (cM, _) :: (cS, _) :: (cq, _) :: fH) (λ X => (cM, _) :: X ++ ((cS, _) :: (cq, _) :: fH)) (.cons .id) rfl mC (by decide) (by decide) (λ _ => (su (so (so (sk sn))))) (λ yG bK eU => ?_)
       replace h0 := h0.mono bK
       replace b7 := b7.mono bK
       replace b8 := b8.mono bK
       replace b9 := b9.mono bK
       replace dY := hY.mono (rr) bK dY
       replace bC := bC.up (H := []) bK
       replace bO := bO.up (H := []) bK
       replace cj := cj.up (H := []) bK
       replace cN := cN.mono bK
       replace hY := hY.up bK
       refine Any.on 10 rfl rfl (Ox.cD rfl rfl rfl rfl tY rfl rfl ((ih (hY.frame [(cM, _), (cS, _), (cq, _)]) jI dP x2 ⟨_, dY, rfl⟩ eU mM bC.any b7 b8 b9 bO cj wR).mono ?_))
       rintro _ yJ _ ⟨bE, ⟨fI, kg, eT⟩, rfl⟩
       replace eT : _ = (cM, _) :: (cS, _) :: (cq, _) :: fI := eT
       subst eT
       replace h0 := h0.mono bE
       replace b7 := b7.mono bE
       replace b8 := b8.mono bE
       replace b9 := b9.mono bE
       replace bC := bC.up (H := []) bE
       replace bO := bO.up (H := []) bE
       replace cj := cj.up (H := []) bE
       replace eU := eU.mono bE
       replace cN := cN.mono bE
       replace hY := hY.up bE
       refine ⟨_, (.put rfl), ⟨bE, (ku (so (so (sk sn)))), ?_⟩⟩
       refine Any.vs 1 [11] rfl ?_
       exact Any.done (At.drop (so (so sr)) (wv _ _ _ ⟨((cu.trans bK).trans bE), fI, kg, rfl, ay.sub ⟨rfl, rfl, rfl, rfl, rfl, rfl, rfl, trivial⟩⟩))
      refine  (aP.to (Ox.buildSlice (cells := #[_]) rfl cW rfl (by decide) en (bq rfl rfl rfl rfl bD) rfl λ cM _ _ => ⟨_, (.put rfl), ⟨rr, (ku (so (aH (so (sk sn))))), ?_⟩⟩))
      refine Any.on 5 rfl rfl (aP.to (Ox.append (K := CZ) (λ X => (cM, _) :: X ++ ((cS, _) :: (cq, _) :: fH)) rfl rfl rfl iZ Tryz.underlying25 (by simp) (.cons .id) o9 (dR.lit (.tail _ (List.mem_append_right _ z0)) (aK.le (aK.cons (x := dH) rfl rfl aK.nil) rfl) rfl) sH rfl λ AW yC mC => ⟨_, (.put rfl), ⟨rr, (ku (so (aH (so (sk sn))))), ?_⟩⟩))
      refine Any.cv 9 fX (gb x1 [dH] l1 (bV.lit z0 (aK.le (aK.cons (x := dH) rfl rfl aK.nil) rfl) rfl) sI) ?_
      rintro _ _ _ ⟨rfl, rfl, mM, rfl⟩
      refine ⟨rr, (ku (so (aH (so (sk sn))))), ?_⟩
      refine Any.fY (H2 := (cM, _) :: (cS, _) :: (cq, _) :: fH) (λ X => (cM, _) :: X ++ ((cS, _) :: (cq, _) :: fH)) (.cons .id) rfl mC (by decide) (by decide) (λ _ => (su (so (so (sk sn))))) (λ yG bK eU => ?_)
      replace h0 := h0.mono bK
      replace b7 := b7.mono bK
      replace b8 := b8.mono bK
      replace b9 := b9.mono bK
      replace dY := hY.mono (rr) bK dY
      replace bC := bC.up (H := []) bK
      replace bO := bO.up (H := []) bK
      replace cj := cj.up (H := []) bK
      replace cN := cN.mono bK
      replace hY := hY.up bK
      refine Any.on 10 rfl rfl (Ox.cD rfl rfl rfl rfl tY rfl rfl ((ih (hY.frame [(cM, _), (cS, _), (cq, _)]) jI dP x2 ⟨_, dY, rfl⟩ eU mM bC.any b7 b8 b9 bO cj wR).mono ?_))
      rintro _ yJ _ ⟨bE, ⟨fI, kg, eT⟩, rfl⟩
      replace eT : _ = (cM, _) :: (cS, _) :: (cq, _) :: fI := eT
      subst eT
      replace h0 := h0.mono bE
      replace b7 := b7.mono bE
      replace b8 := b8.mono bE
      replace b9 := b9.mono bE
      replace bC := bC.up (H := []) bE
      replace bO := bO.up (H := []) bE
      replace cj := cj.up (H := []) bE
      replace eU := eU.mono bE
      replace cN := cN.mono bE
      replace hY := hY.up bE
      refine ⟨_, (.put rfl), ⟨bE, (ku (so (so (sk sn)))), ?_⟩⟩
      refine Any.vs 1 [11] rfl ?_
      exact Any.done (At.drop (so (so sr)) (wv _ _ _ ⟨((cu.trans bK).trans bE), fI, kg, rfl, ay.sub ⟨rfl, rfl, rfl, rfl, rfl, rfl, rfl, trivial⟩⟩))
     refine  (aP.to (Ox.buildSlice (cells := #[_]) rfl cW rfl (by decide) en (bq rfl rfl rfl rfl bD) rfl λ cM _ _ => ⟨_, (.put rfl), ⟨rr, (ku (so (so (sk sn)))), ?_⟩⟩))
     refine Any.cv 2 vV (xd x0 h0.rd uH) ?_
     rintro LB IJ _ ⟨cu, _, Iu, o9, rfl, rfl⟩
     replace h0 := h0.mono cu
     replace b7 := b7.mono cu
     replace b8 := b8.mono cu
     replace b9 := b9.mono cu
     replace dY := hY.mono (rr) cu dY
     replace bC := bC.up (H := []) cu
     replace bO := bO.up (H := []) cu
     replace cj := cj.up (H := []) cu
     replace cN := cN.mono cu
     replace hY := hY.up cu
     refine ⟨cu, (ku (aH (so (so (sk sn))))), ?_⟩
     refine Any.on 5 rfl rfl (aP.to (Ox.append (K := CZ) (λ X => X ++ ((cM, _) :: (cS, _) :: (cq, _) :: fH)) rfl rfl rfl iZ Tryz.underlying25 (by simp) .id o9 (dR.lit (List.mem_append_right _ z1) (aK.le (aK.cons (x := dH) rfl rfl aK.nil) rfl) rfl) sH rfl λ AW yC mC => ⟨_, (.put rfl), ⟨rr, (ku (aH (so (so (sk sn))))), ?_⟩⟩))
     refine Any.cv 9 fX (gb x1 [dH] l1 (bV.lit (List.mem_append_right _ z0) (aK.le (aK.cons (x := dH) rfl rfl aK.nil) rfl) rfl) sI) ?_
     rintro _ _ _ ⟨rfl, rfl, mM, rfl⟩
     refine ⟨rr, (ku (aH (so (so (sk sn))))), ?_⟩
     refine Any.fY (H2 := (cM, _) :: (cS, _) :: (cq, _) :: fH) (λ X => X ++ ((cM, _) :: (cS, _) :: (cq, _) :: fH)) .id rfl mC (by decide) (by decide) (λ _ => (su (so (so (sk sn))))) (λ yG bK eU => ?_)
     replace h0 := h0.mono bK
     replace b7 := b7.mono bK
     replace b8 := b8.mono bK
     replace b9 := b9.mono bK
     replace dY := hY.mono (rr) bK dY
     replace bC := bC.up (H := []) bK
     replace bO := bO.up (H := []) bK
     replace cj := cj.up (H := []) bK
     replace cN := cN.mono bK
     replace hY := hY.up bK
     refine Any.on 10 rfl rfl (Ox.cD rfl rfl rfl rfl tY rfl rfl ((ih (hY.frame [(cM, _), (cS, _), (cq, _)]) jI dP x2 ⟨_, dY, rfl⟩ eU mM bC.any b7 b8 b9 bO cj wR).mono ?_))
     rintro _ yJ _ ⟨bE, ⟨fI, kg, eT⟩, rfl⟩
     replace eT : _ = (cM, _) :: (cS, _) :: (cq, _) :: fI := eT
     subst eT
     replace h0 := h0.mono bE
     replace b7 := b7.mono bE
     replace b8 := b8.mono bE
     replace b9 := b9.mono bE
     replace bC := bC.up (H := []) bE
     replace bO := bO.up (H := []) bE
     replace cj := cj.up (H := []) bE
     replace eU := eU.mono bE
     replace cN := cN.mono bE
     replace hY := hY.up bE
     refine ⟨_, (.put rfl), ⟨bE, (ku (so (so (sk sn)))), ?_⟩⟩
     refine Any.vs 1 [11] rfl ?_
     exact Any.done (At.drop (so (so sr)) (wv _ _ _ ⟨((cu.trans bK).trans bE), fI, kg, rfl, ay.sub ⟨rfl, rfl, rfl, rfl, rfl, rfl, rfl, trivial⟩⟩))
    refine  (aP.to (Ox.buildSlice (cells := #[_]) rfl cW rfl (by decide) en (bq rfl rfl rfl rfl bD) rfl λ cM _ _ => ⟨_, (.put rfl), ⟨rr, (ku (so (sk sn))), ?_⟩⟩))
    refine tw 2 4 ?_ ?_
    ·refine  (Ox.cD rfl rfl rfl rfl vV rfl rfl ((xd x0 h0.rd uH).mono ?_))
     rintro LB IJ _ ⟨cu, _, Iu, o9, rfl, rfl⟩
     replace h0 := h0.mono cu
     replace b7 := b7.mono cu
     replace b8 := b8.mono cu
     replace b9 := b9.mono cu
     replace dY := hY.mono (rr) cu dY
     replace bC := bC.up (H := []) cu
     replace bO := bO.up (H := []) cu
     replace cj := cj.up (H := []) cu
     replace cN := cN.mono cu
     replace hY := hY.up cu
     refine ⟨_, (.put rfl), ⟨cu, (ku (aH (so (sk sn)))), ?_⟩⟩
     refine Any.on 4 rfl rfl (aP.to (Ox.buildSlice (cells := #[_]) rfl cW rfl (by decide) en (bq rfl rfl rfl rfl bD) rfl λ cS _ _ => ⟨_, (.put rfl), ⟨rr, (ku (so (aH (so (sk sn))))), ?_⟩⟩))
     refine Any.on 5 rfl rfl (aP.to (Ox.append (K := CZ) (λ X => (cS, _) :: X ++ ((cM, _) :: (cq, _) :: fH)) rfl rfl rfl iZ Tryz.underlying25 (by simp) (.cons .id) o9 (dR.lit z0 (aK.le (aK.cons (x := dH) rfl rfl aK.nil) rfl) rfl) sH rfl λ AW yC mC => ⟨_, (.put rfl), ⟨rr, (ku (so (aH (so (sk sn))))), ?_⟩⟩))
     refine Any.cv 9 fX (gb x1 [dH] l1 (bV.lit (.tail _ (List.mem_append_right _ z0)) (aK.le (aK.cons (x := dH) rfl rfl aK.nil) rfl) rfl) sI) ?_
     rintro _ _ _ ⟨rfl, rfl, mM, rfl⟩
     refine ⟨rr, (ku (so (aH (so (sk sn))))), ?_⟩
     refine Any.fY (H2 := (cS, _) :: (cM, _) :: (cq, _) :: fH) (λ X => (cS, _) :: X ++ ((cM, _) :: (cq, _) :: fH)) (.cons .id) rfl mC (by decide) (by decide) (λ _ => (su (so (so (sk sn))))) (λ yG bK eU => ?_)
     replace h0 := h0.mono bK
     replace b7 := b7.mono bK
     replace b8 := b8.mono bK
     replace b9 := b9.mono bK
     replace dY := hY.mono (rr) bK dY
     replace bC := bC.up (H := []) bK
     replace bO := bO.up (H := []) bK
     replace cj := cj.up (H := []) bK
     replace cN := cN.mono bK
     replace hY := hY.up bK
     refine Any.on 10 rfl rfl (Ox.cD rfl rfl rfl rfl tY rfl rfl ((ih (hY.frame [(cS, _), (cM, _), (cq, _)]) jI dP x2 ⟨_, dY, rfl⟩ eU mM bC.any b7 b8 b9 bO cj wR).mono ?_))
     rintro _ yJ _ ⟨bE, ⟨fI, kg, eT⟩, rfl⟩
     replace eT : _ = (cS, _) :: (cM, _) :: (cq, _) :: fI := eT
     subst eT
     replace h0 := h0.mono bE
     replace b7 := b7.mono bE
     replace b8 := b8.mono bE
     replace b9 := b9.mono bE
     replace bC := bC.up (H := []) bE
     replace bO := bO.up (H := []) bE
     replace cj := cj.up (H := []) bE
     replace eU := eU.mono bE
     replace cN := cN.mono bE
     replace hY := hY.up bE
     refine ⟨_, (.put rfl), ⟨bE, (ku (so (so (sk sn)))), ?_⟩⟩
     refine Any.vs 1 [11] rfl ?_
     exact Any.done (At.drop (so (so sr)) (wv _ _ _ ⟨((cu.trans bK).trans bE), fI, kg, rfl, ay.sub ⟨rfl, rfl, rfl, rfl, rfl, rfl, rfl, trivial⟩⟩))
    refine  (aP.to (Ox.buildSlice (cells := #[_]) rfl cW rfl (by decide) en (bq rfl rfl rfl rfl bD) rfl λ cS _ _ => ⟨_, (.put rfl), ⟨rr, (ku (so (so (sk sn)))), ?_⟩⟩))
    refine Any.cv 2 vV (xd x0 h0.rd uH) ?_
    rintro LB IJ _ ⟨cu, _, Iu, o9, rfl, rfl⟩
    replace h0 := h0.mono cu
    replace b7 := b7.mono cu
    replace b8 := b8.mono cu
    replace b9 := b9.mono cu
    replace dY := hY.mono (rr) cu dY
    replace bC := bC.up (H := []) cu
    replace bO := bO.up (H := []) cu
    replace cj := cj.up (H := []) cu
    replace cN := cN.mono cu
    replace hY := hY.up cu
    refine ⟨cu, (ku (aH (so (so (sk sn))))), ?_⟩
    refine Any.on 5 rfl rfl (aP.to (Ox.append (K := CZ) (λ X => X ++ ((cS, _) :: (cM, _) :: (cq, _) :: fH)) rfl rfl rfl iZ Tryz.underlying25 (by simp) .id o9 (dR.lit (List.mem_append_right _ z0) (aK.le (aK.cons (x := dH) rfl rfl aK.nil) rfl) rfl) sH rfl λ AW yC mC => ⟨_, (.put rfl), ⟨rr, (ku (aH (so (so (sk sn))))), ?_⟩⟩))
    refine Any.cv 9 fX (gb x1 [dH] l1 (bV.lit (List.mem_append_right _ z1) (aK.le (aK.cons (x := dH) rfl rfl aK.nil) rfl) rfl) sI) ?_
    rintro _ _ _ ⟨rfl, rfl, mM, rfl⟩
    refine ⟨rr, (ku (aH (so (so (sk sn))))), ?_⟩
    refine Any.fY (H2 := (cS, _) :: (cM, _) :: (cq, _) :: fH) (λ X => X ++ ((cS, _) :: (cM, _) :: (cq, _) :: fH)) .id rfl mC (by decide) (by decide) (λ _ => (su (so (so (sk sn))))) (λ yG bK eU => ?_)
    replace h0 := h0.mono bK
    replace b7 := b7.mono bK
    replace b8 := b8.mono bK
    replace b9 := b9.mono bK
    replace dY := hY.mono (rr) bK dY
    replace bC := bC.up (H := []) bK
    replace bO := bO.up (H := []) bK
    replace cj := cj.up (H := []) bK
    replace cN := cN.mono bK
    replace hY := hY.up bK
    refine Any.on 10 rfl rfl (Ox.cD rfl rfl rfl rfl tY rfl rfl ((ih (hY.frame [(cS, _), (cM, _), (cq, _)]) jI dP x2 ⟨_, dY, rfl⟩ eU mM bC.any b7 b8 b9 bO cj wR).mono ?_))
    rintro _ yJ _ ⟨bE, ⟨fI, kg, eT⟩, rfl⟩
    replace eT : _ = (cS, _) :: (cM, _) :: (cq, _) :: fI := eT
    subst eT
    replace h0 := h0.mono bE
    replace b7 := b7.mono bE
    replace b8 := b8.mono bE
    replace b9 := b9.mono bE
    replace bC := bC.up (H := []) bE
    replace bO := bO.up (H := []) bE
    replace cj := cj.up (H := []) bE
    replace eU := eU.mono bE
    replace cN := cN.mono bE
    replace hY := hY.up bE
    refine ⟨_, (.put rfl), ⟨bE, (ku (so (so (sk sn)))), ?_⟩⟩
    refine Any.vs 1 [11] rfl ?_
    exact Any.done (At.drop (so (so sr)) (wv _ _ _ ⟨((cu.trans bK).trans bE), fI, kg, rfl, ay.sub ⟨rfl, rfl, rfl, rfl, rfl, rfl, rfl, trivial⟩⟩))
   exact At.exit rfl (At.drop (so sr) (Jm _ (aa hM).symm _ _ _ ⟨o7, fH, dY, rfl, ay.sub trivial⟩))
  rintro lP aeA adI aBj ⟨EP, yD, Oy, rfl, Qp⟩ hM
  refine At.sub Qp ?_
  replace hY := hY.up EP
  refine sg aQ ?_
  refine vs 1 ?_
  refine er ?_
  obtain rfl := aa hM
  exact rt Tryz.func152 (.tmp rfl .nil) sr (hk _ _ _ ⟨(fZ.trans EP), Oy, rfl⟩)
theorem Td {S : Type} {ys : (List Int) → S → Option (S × Bool)} {vY : Value} {Inv : S → aA → ak → Prop} {R : aA} {Hy : ak} (hY : iH ah R (Ej CZ 1) vY ys Inv) (x0 : av) {s0 : S} (hI : Inv s0 R Hy) {aG aI aM : Value} (aE : az bI 5 R aG x0.au) (aJ : az CZ 1 R aI x0.Out) (aL : az bB 2 R aM x0.aU) {r : S} (hM : sN ys x0 s0 = some r) : aB ah 108 #[.agg #[iv x0.aD, iv x0.af.ao, iv x0.af.ax, aG, aI, aM], vY] R Hy (λ v R' H' => aO R R' ∧ Inv r R' H' ∧ v = .tuple #[]) := by
 unfold sN at hM
 refine aB.bk Tryz.func108 rfl (n := 13) rfl rfl λ fr cs hk => ?_
 refine sg aR ?_
 refine bx λ cq => ?_
 refine At.s rfl rfl (Ox.tW rfl rfl hY.cells rfl λ nc _ _ => ⟨_, (.put rfl), ?_⟩)
 refine nx aQ ?_
 refine At.s rfl rfl (Ox.alloc (cs := #[.nilFunc]) rfl aCU rfl λ kG _ _ => ⟨_, (.put rfl), ?_⟩)
 refine nx aR ?_
 refine At.s rfl rfl (Ox.makeFunc (vs := #[]) (us := #[_, _, _]) rfl rfl rfl rfl (.put rfl) ?_)
 refine At.s rfl rfl (Ox.cI (cs' := #[_]) rfl rfl rfl TM rfl .here rfl rfl rfl (.refl _) ?_)
 refine er ?_
 refine At.nv (H2 := (kG, _) :: (nc, _) :: Hy) (λ X => (kG, _) :: (nc, _) :: X ++ (Hy)) (.cons (.cons .id)) rfl (λ V1 kL iP => ?_)
 replace aE := aE.mono kL
 replace aJ := aJ.mono kL
 replace aL := aL.mono kL
 replace hI := hY.mono (rr) kL hI
 replace hY := hY.up kL
 refine At.nv (H2 := (kG, _) :: Hy) (λ X => (kG, _) :: X ++ (Hy)) (.cons .id) rfl (λ aeJ lD og => ?_)
 replace aE := aE.mono lD
 replace aJ := aJ.mono lD
 replace aL := aL.mono lD
 replace hI := hY.mono (rr) lD hI
 replace iP := iP.up (H := []) lD
 replace hY := hY.up lD
 refine At.nv (H2 := Hy) (λ X => X ++ (Hy)) .id rfl (λ MP kh qj => ?_)
 replace aE := aE.mono kh
 replace aJ := aJ.mono kh
 replace aL := aL.mono kh
 replace hI := hY.mono (rr) kh hI
 replace iP := iP.up (H := []) kh
 replace og := og.up (H := []) kh
 replace hY := hY.up kh
 refine At.draw (n := 7) (is := [0, 1, 2, 3, 4, 5, 6]) (λ _ => []) mixed rfl (by decide +kernel) rfl rfl ?_
 refine ts 0 [6] rfl (λ _ _ _ _ _ h => h) (su sn) (λ R' H' hR hS => Ox.bu rfl rfl TM ((qj.up hR).one (j := 0) rfl) rfl (.one rfl) ⟨rfl, rfl, rfl⟩) ?_
 refine ts 1 [5, 6] rfl (λ _ _ _ _ _ h => h) (su sn) (λ R' H' hR hS => Ox.p9 (z := (List.toArray ([] ++ ([false, false, false, false, false].map Value.bool ++ [])))) rfl pZ rfl (.one rfl) ⟨rfl, rfl, rfl⟩) ?_
 refine Any.vs 2 [2, 3] rfl ?_
 refine ts 4 [5, 6] rfl (λ _ _ _ _ _ h => h) (su sn) (λ R' H' hR hS => Ox.bu rfl rfl cO ((iP.up hR).one (j := 4) rfl) rfl (.one rfl) ⟨rfl, rfl, rfl⟩) ?_
 obtain ⟨fC, oq, hM⟩ := aj hM
 refine Any.cv 5 fX (gb [false, false, false, false, false] x0.Out rfl aJ.rd oq) ?_
 rintro _ _ _ ⟨rfl, rfl, axp, rfl⟩
 refine ⟨rr, (ku sn), ?_⟩
 obtain ⟨k6, zK, hM⟩ := aj hM
 refine Any.on 6 rfl rfl (Ox.cD rfl rfl rfl rfl tY rfl rfl ((axS 9  (hY.frame []) [] fC x0 ⟨_, hI, rfl⟩ az.nil axp iP.any aE aJ aL og qj zK).mono ?_))
 rintro _ aHC _ ⟨B5, ⟨aes, aiT, Oo⟩, rfl⟩
 replace Oo : aes = _ := Oo.symm
 subst Oo
 replace iP := iP.up (H := []) B5
 replace og := og.up (H := []) B5
 replace qj := qj.up (H := []) B5
 replace hY := hY.up B5
 refine ⟨_, (.put rfl), ⟨B5, (ku sn), ?_⟩⟩
 refine Any.done ?_
 obtain rfl := aa hM
 exact At.oc Tryz.func108 .nil (J.drop sr (hk _ _ _ ⟨(((kL.trans lD).trans kh).trans B5), aiT, rfl⟩))
theorem Tx (x0 : av) {aG aI aM : Value} (hG : fG R) (hK : yF ah) (aE : az bI 5 R aG x0.au) (aJ : az CZ 1 R aI x0.Out) (aL : az bB 2 R aM x0.aU) {r : (Int × Int)} (hM : xC x0 = some r) : aB ah 25 #[.agg #[iv x0.aD, iv x0.af.ao, iv x0.af.ax, aG, aI, aM]] R H (λ v R' H' => aO R R' ∧ H = H' ∧ v = .tuple #[iv r.1, iv r.2]) := by
 unfold xC at hM
 refine aB.bk Tryz.func25 rfl (n := 38) rfl rfl λ fr cs hk => ?_
 refine sg aT ?_
 refine bx λ yP => ?_
 refine vs 2 ?_
 refine er ?_
 refine At.scope ?_
 refine sg eK ?_
 refine lN [_, _, _, _, _, _] 0 6 bp z0 ?_
 obtain ⟨dO, Gh, hM⟩ := aj hM
 refine At.cv od (oK x0 (λ y => m6 y) hG aE aJ aL ⟨90, #[], #[], rfl, EE, λ R' H' hR hH y r va hA hr => by obtain ⟨_, rfl, ⟨pN, oP, pO, gB, fR, gC, rfl⟩⟩ := hA; exact (GX y gB fR gC hr).mono λ _ _ _ ⟨h1, h2, h3⟩ => ⟨h1 ▸ rr, h2.symm, h3⟩⟩ Gh) ?_
 rintro _ V8 _ ⟨nB, aFg, Ds, Du, Dv, Dw, Dx, wO, wP, wQ, Z9, aaa, rfl, rfl⟩
 refine vs 3 ?_
 refine At.s rfl rfl (Ox.alloc (cs := #[iv 0, iv 0, iv 0, .slice none 0 0, .slice none 0 0, .slice none 0 0, .slice none 0 0, .map none]) rfl m4 rfl λ mb _ _ => ⟨_, (.put rfl), ?_⟩)
 refine At.s rfl rfl (Ox.bG (cs' := #[_, _, _, _, _, _, _, _]) rfl rfl rfl ej rfl (aq rfl (aq rfl (aq rfl (aq wO.one (aq wP.one (aq wQ.one (aq Z9.one (aq aaa.one aW)))))))) .here rfl rfl rfl (.refl _) ?_)
 refine vs 1 ?_
 refine es ?_
 refine sg aR ?_
 refine vs 2 ?_
 refine er ?_
 refine sc hM (λ RD hM => ?_) (λ RD hM => ?_)
 ·refine sg aT ?_
  refine vs 3 ?_
  refine er ?_
  obtain rfl := aa hM
  exact rt Tryz.func25 (.tmp rfl (.tmp rfl .nil)) (so (aH (so sr))) (hk _ _ _ ⟨nB, rfl, rfl⟩)
 refine sp ?_
 refine sg aR ?_
 refine lN [_, _, _, _, _, _, _, _] 0 8 ej z0 ?_
 obtain ⟨nW, Gj, hM⟩ := aj hM
 refine At.step rfl rfl rfl (Ox.cD rfl rfl rfl rfl Jj rfl rfl ((aB.hole (G := (λ X => (mb, _) :: X ++ ((yP, _) :: H))) (.cons .id) (hK dO.1 wO wP wQ Z9 aaa Gj)).mono ?_))
 rintro _ MT _ ⟨_, ⟨jS, zd, rfl, rfl⟩, rfl⟩
 replace wO := wO.mono jS
 replace wP := wP.mono jS
 replace wQ := wQ.mono jS
 refine ⟨_, (.put rfl), ?_⟩
 refine nx aR ?_
 refine At.s rfl rfl (Ox.alloc (cs := #[iv 0]) rfl rC rfl λ rR _ _ => ⟨_, (.put rfl), ?_⟩)
 refine At.s rfl rfl (Ox.cI (cs' := #[_]) rfl rfl rfl aV rfl .here rfl rfl rfl (.refl _) ?_)
 refine es ?_
 refine At.label ?_
 refine sq ?_
 refine sg aT ?_
 refine vs 1 ?_
 refine lN [_, _, _, _, _, _] 0 6 dS z1 ?_
 refine At.s rfl rfl (Ox.makeFunc (vs := #[_]) (us := #[]) rfl rfl rfl rfl (.put rfl) ?_)
 refine er ?_
 refine At.block ?_
 refine At.G9 (A := (Ej CZ 1)) (λ y s => sN y dO.1.book s)  hM rfl NH rfl rfl rfl (λ (gU : Int) R' T H' => aO MT R' ∧ H' = (rR, .cells #[iv gU] 3) :: (mb, .cells #[iv dO.1.book.aD, iv dO.1.book.af.ao, iv dO.1.book.af.ax, Ds, Du, Dv, Dw, Dx] 106) :: (yP, .cells #[iv x0.aD, iv x0.af.ao, iv x0.af.ax, aG, aI, aM] 28) :: T)  (λ gU R0 T0 H0 q => by obtain ⟨hR, rfl⟩ := q; exact ⟨(rR, .cells #[iv gU] 3) :: (mb, .cells #[iv dO.1.book.aD, iv dO.1.book.af.ao, iv dO.1.book.af.ax, Ds, Du, Dv, Dw, Dx] 106) :: (yP, .cells #[iv x0.aD, iv x0.af.ao, iv x0.af.ax, aG, aI, aM] 28) :: [], by simp, λ R1 T1 h => ⟨hR.trans h, by simp⟩⟩)  (λ v Inv Hy z hY hI hz => (Td hY dO.1.book hI wO wP wQ hz).mono λ _ _ _ h => ⟨h.1, h.2.1⟩) ⟨rr, rfl⟩ ?_ ?_
 ·rintro r55 gU VZ aEr _ ⟨wk, rfl⟩ hM
  refine At.inBlock ?_
  refine sg aT ?_
  refine ld 0 aV z0 ?_
  refine vs 2 ?_
  refine er ?_
  obtain rfl := aa hM
  exact At.qQ (.there (.there (.there .here))) Tryz.func25 (.tmp rfl (.tmp rfl .nil)) (J.drop (so (so (so (so sr)))) (hk _ _ _ ⟨((nB.trans jS).trans wk), rfl, rfl⟩))
 rintro aQH U6 gU VZ T55 H55 Kr Kt aKi _ aK6 aiM ⟨wk, rfl⟩ anD z55 hM En
 replace zd := zd.mono wk
 replace wO := wO.mono wk
 replace wP := wP.mono wk
 replace wQ := wQ.mono wk
 refine At.rg aQ ?_
 refine vs 1 ?_
 refine er ?_
 refine At.beginRound rfl rfl (.there (.there (.there .here))) anD ?_
 refine At.block ?_
 refine sq ?_
 refine sg bw ?_
 refine vs 1 ?_
 refine lN [_, _, _, _, _, _] 0 6 dS z1 ?_
 refine vs 1 ?_
 obtain ⟨k8, zR, hM⟩ := aj hM
 refine At.cv NF (Tb dO.1.book U6 wO wP wQ aiM zR) ?_
 rintro _ V9 _ ⟨EY, rfl, aRj, aRk, aRl, aJU, aRm, aJV, avl, avi, avj, avk, avn, avm, rfl⟩
 replace zd := zd.mono EY
 refine er ?_
 refine At.block ?_
 refine At.aAu (A := (j5 (H7 Value.bool 5))) (λ y s => sP y k8.1 k8.2 s) (.exit 1) hM rfl NP rfl rfl z3 rfl (λ (mU : Unit) R' T H' => aO V9 R' ∧ H' = (rR, .cells #[iv gU] 3) :: (mb, .cells #[iv dO.1.book.aD, iv dO.1.book.af.ao, iv dO.1.book.af.ax, Ds, Du, Dv, Dw, Dx] 106) :: (yP, .cells #[iv x0.aD, iv x0.af.ao, iv x0.af.ax, aG, aI, aM] 28) :: (Kr, .loop { Kt with state := .busy }) :: T) (λ (K2 : Unit) R' T H' => aO V9 R' ∧ H' = (rR, .cells #[iv gU] 3) :: (mb, .cells #[iv dO.1.book.aD, iv dO.1.book.af.ao, iv dO.1.book.af.ax, Ds, Du, Dv, Dw, Dx] 106) :: (yP, .cells #[iv x0.aD, iv x0.af.ao, iv x0.af.ax, aG, aI, aM] 28) :: (Kr, .loop { Kt with state := .busy }) :: T) (λ mU R0 T0 H0 q => by obtain ⟨hR, rfl⟩ := q; exact ⟨(rR, .cells #[iv gU] 3) :: (mb, .cells #[iv dO.1.book.aD, iv dO.1.book.af.ao, iv dO.1.book.af.ax, Ds, Du, Dv, Dw, Dx] 106) :: (yP, .cells #[iv x0.aD, iv x0.af.ao, iv x0.af.ax, aG, aI, aM] 28) :: (Kr, .loop { Kt with state := .busy }) :: [], by simp, λ R1 T1 h => ⟨hR.trans h, by simp⟩⟩) (λ K2 R0 T0 H0 q => by obtain ⟨hR, rfl⟩ := q; exact ⟨(rR, .cells #[iv gU] 3) :: (mb, .cells #[iv dO.1.book.aD, iv dO.1.book.af.ao, iv dO.1.book.af.ax, Ds, Du, Dv, Dw, Dx] 106) :: (yP, .cells #[iv x0.aD, iv x0.af.ao, iv x0.af.ax, aG, aI, aM] 28) :: (Kr, .loop { Kt with state := .busy }) :: [], by simp, λ R1 T1 h => ⟨hR.trans h, by simp⟩⟩) (λ v Inv Hy z hY hI hz => (Tn hY k8.1 k8.2 hI avl avi avj avk avn avm hz).mono λ _ _ _ h => ⟨h.1, h.2.1⟩) ⟨rr, rfl⟩ ?_ ?_ ?_
 ·rintro mU V0 adR _ ⟨B0, rfl⟩ hM
  refine At.inBlock ?_
  refine At.rg aT ?_
  refine ld 0 aV z0 ?_
  refine vs 1 ?_
  refine At.s rfl rfl (Ox.cI (cs' := #[_]) rfl rfl rfl aV rfl .here rfl rfl rfl (.refl _) ?_)
  refine er ?_
  refine At.inBlock ?_
  exact En _ (aa hM).symm _ _ _ (EY.trans B0) ⟨((wk.trans EY).trans B0), rfl⟩
 ·rintro K2 aeH adR _ ⟨YO, rfl⟩ hM
  refine At.exit rfl ?_
  exact En _ (aa hM).symm _ _ _ (EY.trans YO) ⟨((wk.trans EY).trans YO), rfl⟩
 rintro aQI U8 mU V0 T69 H69 l69 aM3 aKj _ aK7 ⟨_, rfl, ⟨GD, rfl⟩⟩ ⟨B0, rfl⟩ anE z69 hM MZ Oc
 replace zd := zd.mono B0
 refine At.rg aR ?_
 refine At.s rfl rfl (Ox.alloc (cs := (List.toArray ([] ++ ([false, false, false, false, false].map Value.bool ++ [])))) rfl kB rfl λ b72 _ _ => ⟨_, (.put rfl), ?_⟩)
 refine At.s rfl rfl (Ox.bG (cs' := _) rfl rfl rfl c8 (by simp [GD]) (cr aW (cr (ew λ _ => rfl) aW)) .here (by simp) (dZ (by simp [GD])) rfl (.refl _) ?_)
 refine er ?_
 refine At.beginRound rfl rfl (.there (.there (.there (.there (.there .here))))) anE ?_
 refine At.block ?_
 refine sq ?_
 refine At.dw fe mixed ?_
 refine Any.vs 1 [0] rfl ?_
 refine tl 1 7 TK z2 ?_
 refine Any.tk 2 rfl pp (λ R' H' hR hS => Ox.ck (vs := _) rfl rfl c8 (by simp [GD]) ((aS.box (hS _ z0)).part (j := 0) (n := 5) (ee (by simp [GD]))) rfl (.one rfl) ⟨rfl, rfl, rfl⟩) ?_
 refine Any.tk 3 rfl pp (λ R' H' hR hS => Ox.lookup (k := U8) rfl rfl rfl TD (zd.mono hR) GD rfl (.one rfl) ⟨rfl, rfl, rfl⟩) ?_
 refine Any.vs 1 [4] rfl ?_
 refine tl 5 0 aV z3 ?_
 refine Any.vs 1 [6] rfl ?_
 refine Any.done ?_
 refine sc hM (λ zG hM => ?_) (λ zG hM => ?_)
 ·exact At.drop (so sr) (Oc _ (aa hM).symm _ _ _ _ (rr) ⟨B0, rfl⟩ (.inr (.inr ⟨_, _, rfl, rfl, rfl⟩)))
 refine sp ?_
 refine At.inBlock ?_
 exact At.drop (so sr) (MZ _ (aa hM).symm _ _ _ (rr) ⟨B0, rfl⟩)
theorem ayV (x0 : av) {aG aI aM : Value} (hG : fG R) (hK : yF ah) (aE : az bI 5 R aG x0.au) (aJ : az CZ 1 R aI x0.Out) (aL : az bB 2 R aM x0.aU) {r : ((List Int) × Bool × Int)} (hM : CG x0 = some r) : aB ah 27 #[.agg #[iv x0.aD, iv x0.af.ao, iv x0.af.ax, aG, aI, aM]] R H (λ v R' H' => aO R R' ∧ H = H' ∧ ∃ eP, az CZ 1 R' eP r.1 ∧ v = .tuple #[eP, .bool r.2.1, iv r.2.2]) := by
 unfold CG at hM
 refine aB.bk Tryz.func27 rfl (n := 28) rfl rfl λ fr cs hk => ?_
 refine sg bw ?_
 refine bx λ eS => ?_
 refine At.s rfl rfl (Ox.alloc (cs := #[.slice none 0 0]) rfl aCX rfl λ oZ _ _ => ⟨_, (.put rfl), ?_⟩)
 refine At.s rfl rfl (Ox.alloc (cs := #[.bool false]) rfl Vd rfl λ n8 _ _ => ⟨_, (.put rfl), ?_⟩)
 refine At.s rfl rfl (Ox.alloc (cs := #[iv 0]) rfl aCY rfl λ nh _ _ => ⟨_, (.put rfl), ?_⟩)
 refine nx eK ?_
 refine lN [_, _, _, _, _, _] 0 6 bp z3 ?_
 obtain ⟨cU, Gg, hM⟩ := aj hM
 refine At.cv od (oK x0 (λ y => m6 y) hG aE aJ aL ⟨90, #[], #[], rfl, EE, λ R' H' hR hH y r va hA hr => by obtain ⟨_, rfl, ⟨pN, oP, pO, gB, fR, gC, rfl⟩⟩ := hA; exact (GX y gB fR gC hr).mono λ _ _ _ ⟨h1, h2, h3⟩ => ⟨h1 ▸ rr, h2.symm, h3⟩⟩ Gg) ?_
 rintro _ aHO _ ⟨OO, It, Dm, Dn, Dp, Dq, Dr, wK, wL, wM, zN, Z4, rfl, rfl⟩
 refine vs 3 ?_
 refine At.s rfl rfl (Ox.alloc (cs := #[iv 0, iv 0, iv 0, .slice none 0 0, .slice none 0 0, .slice none 0 0, .slice none 0 0, .map none]) rfl m4 rfl λ ni _ _ => ⟨_, (.put rfl), ?_⟩)
 refine At.s rfl rfl (Ox.bG (cs' := #[_, _, _, _, _, _, _, _]) rfl rfl rfl ej rfl (aq rfl (aq rfl (aq rfl (aq wK.one (aq wL.one (aq wM.one (aq zN.one (aq Z4.one aW)))))))) .here rfl rfl rfl (.refl _) ?_)
 refine At.s rfl rfl (Ox.cI (cs' := #[_]) rfl rfl rfl uW rfl (.there (.skip .here)) rfl rfl rfl (.refl _) ?_)
 refine es ?_
 refine sg aR ?_
 refine At.ld uW ((aS.box (.tail _ (List.mem_append_right _ z0))).one (j := 0) rfl) ?_
 refine vs 1 ?_
 refine er ?_
 refine sc hM (λ zD hM => ?_) (λ zD hM => ?_)
 ·refine sq ?_
  refine At.draw (n := 4) (is := [0, 1, 2, 3]) (many ((ni, .cells #[iv cU.1.book.aD, iv cU.1.book.af.ao, iv cU.1.book.af.ax, Dm, Dn, Dp, Dq, Dr] 106) :: It ++ ((nh, .cells #[iv cU.2] 31) :: (n8, .cells #[.bool false] 4) :: (oZ, .cells #[.slice none 0 0] 25) :: (eS, .cells #[iv x0.aD, iv x0.af.ao, iv x0.af.ax, aG, aI, aM] 28) :: H)) [(1, (ni, .cells #[iv cU.1.book.aD, iv cU.1.book.af.ao, iv cU.1.book.af.ax, Dm, Dn, Dp, Dq, Dr] 106) :: It ++ ((nh, .cells #[iv cU.2] 31) :: (n8, .cells #[.bool false] 4) :: (eS, .cells #[iv x0.aD, iv x0.af.ao, iv x0.af.ax, aG, aI, aM] 28) :: H)), (2, (ni, .cells #[iv cU.1.book.aD, iv cU.1.book.af.ao, iv cU.1.book.af.ax, Dm, Dn, Dp, Dq, Dr] 106) :: It ++ ((nh, .cells #[iv cU.2] 31) :: (eS, .cells #[iv x0.aD, iv x0.af.ao, iv x0.af.ax, aG, aI, aM] 28) :: H)), (3, (ni, .cells #[iv cU.1.book.aD, iv cU.1.book.af.ao, iv cU.1.book.af.ax, Dm, Dn, Dp, Dq, Dr] 106) :: It ++ ((eS, .cells #[iv x0.aD, iv x0.af.ao, iv x0.af.ax, aG, aI, aM] 28) :: H))]) mixed rfl (by decide +kernel) rfl rfl ?_
  refine ts 0 [3] rfl (GZ (su (so (aH (sk (so (so sr)))))) (GZ (su (so (aH (sk (so sr))))) (aN rfl (bf (su (so (aH (sk (so (so (so sr))))))))))) (su (so (aH (sk (so (so (so sr))))))) (λ R' H' hR hS => Ox.bu rfl rfl uW ((aS.box (hS _ z0)).one (j := 0) rfl) rfl (.one rfl) ⟨rfl, rfl, rfl⟩) ?_
  refine Any.on 1 rfl rfl (aP.to (Ox.cI (cs' := #[_]) rfl rfl rfl cO rfl (.there (.skip (.there (.there .here)))) rfl rfl rfl (.refl _) ⟨rr, (bL rfl (su (sk (gV (sk (sk (so sr))))))), ?_⟩))
  refine Any.on 2 rfl rfl (aP.to (Ox.cI (cs' := #[_]) rfl rfl rfl jg rfl (.there (.skip (.there .here))) rfl rfl rfl (.refl _) ⟨rr, (bL rfl (su (sk (gV (sk (so (so sr))))))), ?_⟩))
  refine Any.on 3 rfl rfl (aP.to (Ox.cI (cs' := #[_]) rfl rfl rfl uW rfl (.there (.skip .here)) rfl rfl rfl (.refl _) ⟨rr, (bL rfl (su (sk (gV (so (so (so sr))))))), ?_⟩))
  refine Any.done ?_
  obtain rfl := aa hM
  exact rt Tryz.func27 (.one rfl cO ((aS.box (.tail _ (List.mem_append_right _ z2))).one (j := 0) rfl) (.one rfl jg ((aS.box (.tail _ (List.mem_append_right _ z1))).one (j := 0) rfl) (.one rfl uW ((aS.box (.tail _ (List.mem_append_right _ z0))).one (j := 0) rfl) .nil))) (so (aH (so (so (so (so sr)))))) (hk _ _ _ ⟨OO, rfl, .slice none 0 0, az.nil, rfl⟩)
 refine sp ?_
 refine sg aR ?_
 refine lN [_, _, _, _, _, _, _, _] 0 8 ej z0 ?_
 obtain ⟨eL, oC, hM⟩ := aj hM
 refine At.step rfl rfl rfl (Ox.cD rfl rfl rfl rfl Jj rfl rfl ((aB.hole (G := (λ X => (ni, _) :: X ++ ((nh, _) :: (n8, _) :: (oZ, _) :: (eS, _) :: H))) (.cons .id) (hK cU.1 wK wL wM zN Z4 oC)).mono ?_))
 rintro _ IG _ ⟨_, ⟨rY, PU, rfl, rfl⟩, rfl⟩
 replace wK := wK.mono rY
 replace wL := wL.mono rY
 replace wM := wM.mono rY
 replace zN := zN.mono rY
 refine ⟨_, (.put rfl), ?_⟩
 refine es ?_
 refine sg aT ?_
 refine vs 1 ?_
 refine lN [_, _, _, _, _, _] 0 6 dS z0 ?_
 refine At.s rfl rfl (Ox.makeFunc (vs := #[_]) (us := #[]) rfl rfl rfl rfl (.put rfl) ?_)
 refine er ?_
 refine At.block ?_
 refine At.T3 (A := (Ej CZ 1)) (λ y s => sN y cU.1.book s) .ret hM rfl NH rfl rfl rfl (λ (T6 : Unit) R' T H' => aO IG R' ∧ H' = (ni, .cells #[iv cU.1.book.aD, iv cU.1.book.af.ao, iv cU.1.book.af.ax, Dm, Dn, Dp, Dq, Dr] 106) :: (nh, .cells #[iv cU.2] 31) :: (n8, .cells #[.bool false] 4) :: (oZ, .cells #[.slice none 0 0] 25) :: (eS, .cells #[iv x0.aD, iv x0.af.ao, iv x0.af.ax, aG, aI, aM] 28) :: T) (λ (mP : (List Int)) R' T H' => aO IG R' ∧ ∃ AR, az CZ 1 R' AR mP ∧ H' = (nh, .cells #[iv 0] 31) :: (n8, .cells #[.bool true] 4) :: (oZ, .cells #[AR] 25) :: T) (λ T6 R0 T0 H0 q => by obtain ⟨hR, rfl⟩ := q; exact ⟨(ni, .cells #[iv cU.1.book.aD, iv cU.1.book.af.ao, iv cU.1.book.af.ax, Dm, Dn, Dp, Dq, Dr] 106) :: (nh, .cells #[iv cU.2] 31) :: (n8, .cells #[.bool false] 4) :: (oZ, .cells #[.slice none 0 0] 25) :: (eS, .cells #[iv x0.aD, iv x0.af.ao, iv x0.af.ax, aG, aI, aM] 28) :: [], by simp, λ R1 T1 h => ⟨hR.trans h, by simp⟩⟩) (λ mP R0 T0 H0 q => by obtain ⟨hR, AR, Oj, rfl⟩ := q; exact ⟨(nh, .cells #[iv 0] 31) :: (n8, .cells #[.bool true] 4) :: (oZ, .cells #[AR] 25) :: [], by simp, λ R1 T1 h => ⟨hR.trans h, AR, Oj.mono h, by simp⟩⟩) (λ v Inv Hy z hY hI hz => (Td hY cU.1.book hI wK wL wM hz).mono λ _ _ _ h => ⟨h.1, h.2.1⟩) ⟨rr, rfl⟩ ?_ ?_ ?_
 ·rintro r45 T6 R45 adM _ ⟨uh, rfl⟩ hM
  refine At.inBlock ?_
  refine sg aT ?_
  refine At.s rfl rfl (Ox.cI (cs' := #[_]) rfl rfl rfl cO rfl (.there (.there (.there .here))) rfl rfl rfl (.refl _) ?_)
  refine At.s rfl rfl (Ox.cI (cs' := #[_]) rfl rfl rfl jg rfl (.there (.there .here)) rfl rfl rfl (.refl _) ?_)
  refine At.s rfl rfl (Ox.cI (cs' := #[_]) rfl rfl rfl uW rfl (.there .here) rfl rfl rfl (.refl _) ?_)
  refine er ?_
  obtain rfl := aa hM
  exact At.qQ (.there (.there (.there (.there (.there .here))))) Tryz.func27 (.one rfl cO ((aS.box z3).one (j := 0) rfl) (.one rfl jg ((aS.box z2).one (j := 0) rfl) (.one rfl uW ((aS.box z1).one (j := 0) rfl) .nil))) (J.drop (so (so (so (so (so (so sr)))))) (hk _ _ _ ⟨((OO.trans rY).trans uh), rfl, .slice none 0 0, az.nil, rfl⟩))
 ·rintro r45 mP aeC adM _ ⟨ai0, AR, Oj, rfl⟩ hM
  obtain rfl := aa hM
  exact At.qQ (.there (.there (.there .here))) Tryz.func27 (.one rfl cO ((aS.box z2).one (j := 0) rfl) (.one rfl jg ((aS.box z1).one (j := 0) rfl) (.one rfl uW ((aS.box z0).one (j := 0) rfl) .nil))) (J.drop (so (so (so (so sr)))) (hk _ _ _ ⟨((OO.trans rY).trans ai0), rfl, AR, Oj, rfl⟩))
 rintro aBO L7 T6 R45 T45 H45 l45 aM2 aKh _ aK5 EN ⟨uh, rfl⟩ anC z45 hM afi EG
 replace PU := PU.mono uh
 replace wK := wK.mono uh
 replace wL := wL.mono uh
 replace wM := wM.mono uh
 replace zN := zN.mono uh
 refine At.rg aQ ?_
 refine vs 1 ?_
 refine er ?_
 refine At.beginRound rfl rfl (.there (.there (.there (.there (.there .here))))) anC ?_
 refine At.block ?_
 refine sq ?_
 refine At.dw c6 mixed ?_
 refine tN 0 [_, _, _, _, _, _, _, _] 0 8 ej z0 ?_
 refine Any.vs 2 [1, 3] rfl ?_
 refine tl 4 0 aV z4 ?_
 obtain ⟨dO, Gh, hM⟩ := aj hM
 refine Any.cv 2 N2 (TC (⟨⟨cU.1.book.aD, ⟨cU.1.book.af.ao, cU.1.book.af.ax⟩, cU.1.book.au, cU.1.book.Out, cU.1.book.aU⟩, cU.1.dI, eL⟩ : cR) L7 wK wL wM zN PU EN Gh) ?_
 rintro _ V8 _ ⟨nB, rfl, rfl⟩
 replace EN := EN.mono nB
 refine ⟨nB, ka, ?_⟩
 refine Any.vs 1 [5] rfl ?_
 refine Any.done ?_
 refine sc hM (λ uy hM => ?_) (λ uy hM => ?_)
 ·refine sg bw ?_
  refine vs 1 ?_
  refine At.s rfl rfl (Ox.cI (cs' := #[_]) rfl rfl rfl cO EN.one (.there (.there (.there .here))) rfl rfl rfl (.refl _) ?_)
  refine At.s rfl rfl (Ox.cI (cs' := #[_]) rfl rfl rfl jg rfl (.there (.there .here)) rfl rfl rfl (.refl _) ?_)
  refine At.s rfl rfl (Ox.cI (cs' := #[_]) rfl rfl rfl uW rfl (.there .here) rfl rfl rfl (.refl _) ?_)
  refine er ?_
  exact At.drop (so (sk (sk (sk (so sr))))) (EG _ (aa hM).symm _ _ _ _ nB ⟨(uh.trans nB), aBO, EN, rfl⟩ (.inr (.inl ⟨_, rfl, rfl⟩)))
 refine sp ?_
 refine At.inBlock ?_
 exact afi _ (aa hM).symm _ _ _ nB ⟨(uh.trans nB), rfl⟩
theorem axx (x0 : ao) (x1 : (List Int)) (x2 : Int) {Lj v1 : Value} {b0 e0 : Nat} (aiJ : az CZ 1 R Lj x0.Uj) (h1 : az CZ 1 R v1 x1) {r : ao} (hM : GF x0 x1 x2 = some r) : aB ah 110 #[.pointer (some ⟨b0, 0, none⟩), v1, iv x2] R ((b0, .cells #[Lj, iv x0.number, .bool x0.some_] e0) :: H) (λ v R' H' => ∃ bF, (aO R R' ∧ ∃ acu, az CZ 1 R' acu r.Uj ∧ v = .tuple #[] ∧ bF = [(b0, .cells #[acu, iv r.number, .bool r.some_] e0)]) ∧ H' = bF ++ H) := by
 unfold GF at hM
 refine aB.bk Tryz.func110 rfl (n := 24) rfl rfl λ fr cs hk => ?_
 refine sq ?_
 refine At.eZ hM (λ (KT : Bool) R' H' st' => R = R' ∧ H' = (b0, .cells #[Lj, iv x0.number, .bool x0.some_] e0) :: H ∧ aF st' [(0, .pointer (some ⟨b0, 0, none⟩)), (1, v1), (2, iv x2), (18, .bool KT)])  ?_ ?_
 rotate_right
 ·intro gm hM X1
  refine At.rg K8 ?_
  refine vs 1 ?_
  refine At.s rfl rfl (Ox.nilCheck rfl rfl rfl (.put rfl) ?_)
  refine vs 1 ?_
  refine ld 2 jg z0 ?_
  refine vs 2 ?_
  refine bA hM (λ om hM => ?_) (λ om hM => ?_)
  ·refine At.kn 11 om ?_
   refine vs 7 ?_
   refine er ?_
   exact X1 _ (aa hM).symm _ _ _ ⟨rfl, rfl, ay.sub ⟨rfl, rfl, rfl, rfl, trivial⟩⟩
  refine At.kn 11 om ?_
  refine vs 2 ?_
  refine At.s rfl rfl (Ox.nilCheck rfl rfl rfl (.put rfl) ?_)
  refine vs 1 ?_
  refine ld 1 aV z0 ?_
  refine vs 2 ?_
  refine er ?_
  exact X1 _ (aa hM).symm _ _ _ ⟨rfl, rfl, ay.sub ⟨rfl, rfl, rfl, rfl, trivial⟩⟩
 rintro KT aFS aDV aPk ⟨rfl, rfl, apz⟩ hM
 refine At.sub apz ?_
 refine sc hM (λ mG hM => ?_) (λ mG hM => ?_)
 ·refine At.rg c6 ?_
  refine vs 3 ?_
  refine At.s rfl rfl (Ox.build (cells := #[_, _, _]) rfl aBA rfl (bq rfl h1.cells rfl rfl (bq rfl rfl rfl rfl (bq rfl rfl rfl rfl bD))) rfl (.put rfl) ?_)
  refine At.s rfl rfl (Ox.nilCheck rfl rfl rfl (.put rfl) ?_)
  refine At.s rfl rfl (Ox.bG (cs' := #[_, _, _]) rfl rfl rfl afw rfl (aq h1.one (aq rfl (aq rfl aW))) .here rfl rfl rfl (.refl _) ?_)
  refine er ?_
  obtain rfl := aa hM
  exact At.oc Tryz.func110 .nil (J.drop sr (hk _ _ _ ⟨_, ⟨(rr), v1, h1, rfl, rfl⟩, rfl⟩))
 refine sp ?_
 obtain rfl := aa hM
 exact At.oc Tryz.func110 .nil (J.drop sr (hk _ _ _ ⟨_, ⟨(rr), Lj, aiJ, rfl, rfl⟩, rfl⟩))
theorem ayW (x0 : av) {aG aI aM : Value} (hG : fG R) (hK : yF ah) (aE : az bI 5 R aG x0.au) (aJ : az CZ 1 R aI x0.Out) (aL : az bB 2 R aM x0.aU) {r : ((List Int) × Int × Int)} (hM : CH x0 = some r) : aB ah 29 #[.agg #[iv x0.aD, iv x0.af.ao, iv x0.af.ax, aG, aI, aM]] R H (λ v R' H' => aO R R' ∧ H = H' ∧ ∃ eP, az CZ 1 R' eP r.1 ∧ v = .tuple #[eP, iv r.2.1, iv r.2.2]) := by
 unfold CH at hM
 refine aB.bk Tryz.func29 rfl (n := 31) rfl rfl λ fr cs hk => ?_
 refine sg bw ?_
 refine bx λ eS => ?_
 refine vs 3 ?_
 refine nx eK ?_
 refine lN [_, _, _, _, _, _] 0 6 bp z0 ?_
 obtain ⟨cL, uG, hM⟩ := aj hM
 refine At.cv od (oK x0 (λ y => m6 y) hG aE aJ aL ⟨90, #[], #[], rfl, EE, λ R' H' hR hH y r va hA hr => by obtain ⟨_, rfl, ⟨pN, oP, pO, gB, fR, gC, rfl⟩⟩ := hA; exact (GX y gB fR gC hr).mono λ _ _ _ ⟨h1, h2, h3⟩ => ⟨h1 ▸ rr, h2.symm, h3⟩⟩ uG) ?_
 rintro _ IE _ ⟨jv, aFe, Uv, Uw, Ux, Uy, Uz, wH, wI, wJ, zL, Z2, rfl, rfl⟩
 refine vs 3 ?_
 refine At.s rfl rfl (Ox.alloc (cs := #[iv 0, iv 0, iv 0, .slice none 0 0, .slice none 0 0, .slice none 0 0, .slice none 0 0, .map none]) rfl m4 rfl λ n8 _ _ => ⟨_, (.put rfl), ?_⟩)
 refine At.s rfl rfl (Ox.bG (cs' := #[_, _, _, _, _, _, _, _]) rfl rfl rfl ej rfl (aq rfl (aq rfl (aq rfl (aq wH.one (aq wI.one (aq wJ.one (aq zL.one (aq Z2.one aW)))))))) .here rfl rfl rfl (.refl _) ?_)
 refine vs 1 ?_
 refine es ?_
 refine sg aR ?_
 refine vs 2 ?_
 refine er ?_
 refine sc hM (λ arR hM => ?_) (λ arR hM => ?_)
 ·refine sg bw ?_
  refine vs 4 ?_
  refine er ?_
  obtain rfl := aa hM
  exact rt Tryz.func29 (.tmp rfl (.tmp rfl (.tmp rfl .nil))) (so (aH (so sr))) (hk _ _ _ ⟨jv, rfl, .slice none 0 0, az.nil, rfl⟩)
 refine sp ?_
 refine sg aR ?_
 refine lN [_, _, _, _, _, _, _, _] 0 8 ej z0 ?_
 obtain ⟨lZ, zO, hM⟩ := aj hM
 refine At.step rfl rfl rfl (Ox.cD rfl rfl rfl rfl Jj rfl rfl ((aB.hole (G := (λ X => (n8, _) :: X ++ ((eS, _) :: H))) (.cons .id) (hK cL.1 wH wI wJ zL Z2 zO)).mono ?_))
 rintro _ IF _ ⟨_, ⟨jw, PT, rfl, rfl⟩, rfl⟩
 replace wH := wH.mono jw
 replace wI := wI.mono jw
 replace wJ := wJ.mono jw
 replace zL := zL.mono jw
 refine ⟨_, (.put rfl), ?_⟩
 refine nx aQ ?_
 refine At.s rfl rfl (Ox.alloc (cs := #[.slice none 0 0, iv 0, .bool false]) rfl aCP rfl λ tU _ _ => ⟨_, (.put rfl), ?_⟩)
 refine es ?_
 refine sg aT ?_
 refine vs 1 ?_
 refine lN [_, _, _, _, _, _] 0 6 dS z1 ?_
 refine At.s rfl rfl (Ox.makeFunc (vs := #[_]) (us := #[]) rfl rfl rfl rfl (.put rfl) ?_)
 refine er ?_
 refine At.block ?_
 refine At.drop (H' := (tU, .cells #[.slice none 0 0, iv 0, .bool false] 138) :: (n8, .cells #[iv cL.1.book.aD, iv cL.1.book.af.ao, iv cL.1.book.af.ax, Uv, Uw, Ux, Uy, Uz] 106) :: H) (sk (sk (so sr))) ?_
 refine At.G9 (A := (Ej CZ 1)) (λ y s => sN y cL.1.book s)  hM rfl NH rfl rfl rfl (λ (kr : ((List Int) × Int × Bool)) R' T H' => aO IF R' ∧ ∃ x9, az CZ 1 R' x9 kr.1 ∧ H' = (tU, .cells #[x9, iv kr.2.1, .bool kr.2.2] 138) :: (n8, .cells #[iv cL.1.book.aD, iv cL.1.book.af.ao, iv cL.1.book.af.ax, Uv, Uw, Ux, Uy, Uz] 106) :: T)  (λ kr R0 T0 H0 q => by obtain ⟨hR, x9, yV, rfl⟩ := q; exact ⟨(tU, .cells #[x9, iv kr.2.1, .bool kr.2.2] 138) :: (n8, .cells #[iv cL.1.book.aD, iv cL.1.book.af.ao, iv cL.1.book.af.ax, Uv, Uw, Ux, Uy, Uz] 106) :: [], by simp, λ R1 T1 h => ⟨hR.trans h, x9, yV.mono h, by simp⟩⟩)  (λ v Inv Hy z hY hI hz => (Td hY cL.1.book hI wH wI wJ hz).mono λ _ _ _ h => ⟨h.1, h.2.1⟩) ⟨rr, .slice none 0 0, az.nil, rfl⟩ ?_ ?_
 ·rintro r43 kr R43 aEk _ ⟨wj, x9, yV, rfl⟩ hM
  refine At.inBlock ?_
  refine sq ?_
  refine At.dw fe mixed ?_
  refine Any.vs 1 [0] rfl ?_
  refine tl 1 0 cO z0 ?_
  refine Any.vs 1 [2] rfl ?_
  refine tl 3 1 aV z0 ?_
  refine Any.vs 3 [4, 5, 6] rfl ?_
  refine Any.done ?_
  obtain rfl := aa hM
  exact At.qQ (.there (.there .here)) Tryz.func29 (.tmp rfl (.tmp rfl (.tmp rfl .nil))) (J.drop (so (so (so sr))) (hk _ _ _ ⟨((jv.trans jw).trans wj), rfl, x9, yV, rfl⟩))
 rintro aQG HN kr R43 T43 H43 l43 aM1 aKg _ aK4 Jr ⟨wj, x9, yV, rfl⟩ anB z43 hM afh
 replace PT := PT.mono wj
 replace wH := wH.mono wj
 replace wI := wI.mono wj
 replace wJ := wJ.mono wj
 replace zL := zL.mono wj
 refine At.rg aQ ?_
 refine vs 1 ?_
 refine er ?_
 refine At.beginRound rfl rfl (.there (.there .here)) anB ?_
 refine At.block ?_
 refine At.rg cB ?_
 refine vs 1 ?_
 refine lN [_, _, _, _, _, _, _, _] 0 8 ej z1 ?_
 refine vs 1 ?_
 obtain ⟨dO, Gh, hM⟩ := aj hM
 refine At.cv N2 (TC (⟨⟨cL.1.book.aD, ⟨cL.1.book.af.ao, cL.1.book.af.ax⟩, cL.1.book.au, cL.1.book.Out, cL.1.book.aU⟩, cL.1.dI, lZ⟩ : cR) HN wH wI wJ zL PT Jr Gh) ?_
 rintro _ V8 _ ⟨nB, rfl, rfl⟩
 replace yV := yV.mono nB
 replace Jr := Jr.mono nB
 obtain ⟨L8, avc, hM⟩ := aj hM
 refine At.step rfl rfl rfl (Ox.cD rfl rfl rfl rfl agy rfl rfl ((aB.hole (G := (λ X => X ++ ((n8, _) :: (l43, _) :: T43))) (Hs := [(tU, _)]) .id (axx (⟨kr.1, kr.2.1, kr.2.2⟩ : ao) HN dO yV Jr avc)).mono ?_))
 rintro _ aHR _ ⟨_, ⟨YU, aCs, avd, rfl, rfl⟩, rfl⟩
 refine ⟨_, (.put rfl), ?_⟩
 refine er ?_
 refine At.inBlock ?_
 exact afh _ (aa hM).symm _ _ _ (nB.trans YU) ⟨((wj.trans nB).trans YU), aCs, avd, rfl⟩
theorem Te (x0 : av) {aG aI aM : Value} (aE : az bI 5 R aG x0.au) (aJ : az CZ 1 R aI x0.Out) (aL : az bB 2 R aM x0.aU) {r : Bool} (hM : w8 x0 = some r) : aB ah 112 #[.agg #[iv x0.aD, iv x0.af.ao, iv x0.af.ax, aG, aI, aM]] R H (λ v R' H' => aO R R' ∧ H = H' ∧ v = .bool r) := by
 unfold w8 at hM
 refine aB.bk Tryz.func112 rfl (n := 6) rfl rfl λ fr cs hk => ?_
 refine sg aR ?_
 refine bx λ Es => ?_
 refine At.s rfl rfl (Ox.alloc (cs := #[.bool false]) rfl Vd rfl λ rN _ _ => ⟨_, (.put rfl), ?_⟩)
 refine es ?_
 refine sg aR ?_
 refine lN [_, _, _, _, _, _] 0 6 dS z1 ?_
 refine At.s rfl rfl (Ox.makeFunc (vs := #[_]) (us := #[]) rfl rfl rfl rfl (.put rfl) ?_)
 refine er ?_
 refine At.block ?_
 refine At.drop (H' := (rN, .cells #[.bool false] 4) :: H) (sk (so sr)) ?_
 refine At.T3 (A := (j5 fM)) (λ y s => oI y x0 s) .ret hM rfl NN rfl rfl rfl (λ (T4 : Unit) R' T H' => aO R R' ∧ H' = (rN, .cells #[.bool false] 4) :: T) (λ (abt : Unit) R' T H' => aO R R' ∧ H' = (rN, .cells #[.bool true] 4) :: T) (λ T4 R0 T0 H0 q => by obtain ⟨hR, rfl⟩ := q; exact ⟨(rN, .cells #[.bool false] 4) :: [], by simp, λ R1 T1 h => ⟨hR.trans h, by simp⟩⟩) (λ abt R0 T0 H0 q => by obtain ⟨hR, rfl⟩ := q; exact ⟨(rN, .cells #[.bool true] 4) :: [], by simp, λ R1 T1 h => ⟨hR.trans h, by simp⟩⟩) (λ v Inv Hy z hY hI hz => (Tl hY x0 hI aE aJ aL hz).mono λ _ _ _ h => ⟨h.1, h.2.1⟩) ⟨rr, rfl⟩ ?_ ?_ ?_
 ·rintro r25 T4 R25 adG _ ⟨OC, rfl⟩ hM
  refine At.inBlock ?_
  refine sg aQ ?_
  refine At.s rfl rfl (Ox.cI (cs' := #[_]) rfl rfl rfl jg rfl .here rfl rfl rfl (.refl _) ?_)
  refine er ?_
  obtain rfl := aa hM
  exact At.qQ (.there .here) Tryz.func112 (.one rfl jg ((aS.box z0).one (j := 0) rfl) .nil) (J.drop (so (so sr)) (hk _ _ _ ⟨OC, rfl, rfl⟩))
 ·rintro r25 abt aFW adG _ ⟨aiY, rfl⟩ hM
  obtain rfl := aa hM
  exact At.qQ (.there .here) Tryz.func112 (.one rfl jg ((aS.box z0).one (j := 0) rfl) .nil) (J.drop (so (so sr)) (hk _ _ _ ⟨aiY, rfl, rfl⟩))
 rintro aQD aRF T4 R25 T25 H25 l25 aMZ aKd _ aK2 ⟨_, rfl, ⟨aM7, rfl⟩⟩ ⟨OC, rfl⟩ anx z25 hM aH2 ahS
 refine sp ?_
 refine At.beginRound rfl rfl (.there .here) anx ?_
 refine At.block ?_
 refine sg aQ ?_
 refine At.s rfl rfl (Ox.cI (cs' := #[_]) rfl rfl rfl jg rfl .here rfl rfl rfl (.refl _) ?_)
 refine er ?_
 exact ahS _ (aa hM).symm _ _ _ _ (rr) ⟨OC, rfl⟩ (.inr (.inl ⟨_, rfl, rfl⟩))
theorem Kz (x0 : Int)  {r : Bool} (hM : uP x0 = some r) : aB ah 176 #[iv x0] R H (λ v R' H' => R = R' ∧ H = H' ∧ v = .bool r) := by
 unfold uP at hM
 refine aB.bk Tryz.func176 rfl (n := 6) rfl rfl λ fr cs hk => ?_
 refine sg aQ ?_
 refine vs 1 ?_
 refine nx bw ?_
 refine vs 4 ?_
 refine er ?_
 obtain rfl := aa hM
 exact rt Tryz.func176 (.tmp rfl .nil) sr (hk _ _ _ ⟨rfl, rfl, rfl⟩)
theorem ayc (x0 : Int) (x1 : Int)  {r : Int} (hM : GL x0 x1 = some r) : aB ah 168 #[iv x0, iv x1] R H (λ v R' H' => R = R' ∧ H = H' ∧ v = iv r) := by
 unfold GL at hM
 refine aB.bk Tryz.func168 rfl (n := 20) rfl rfl λ fr cs hk => ?_
 refine sg aQ ?_
 refine vs 1 ?_
 refine nx aT ?_
 refine vs 1 ?_
 obtain ⟨cL, uG, hM⟩ := aj hM
 refine At.cv Ji (Kz x0  uG) ?_
 rintro _ _ _ ⟨rfl, rfl, rfl⟩
 refine vs 1 ?_
 refine nx aT ?_
 refine vs 1 ?_
 obtain ⟨mX, Ch, hM⟩ := aj hM
 refine At.cv Ji (Kz x1  Ch) ?_
 rintro _ _ _ ⟨rfl, rfl, rfl⟩
 refine vs 1 ?_
 refine es ?_
 refine sg aQ ?_
 refine vs 1 ?_
 refine er ?_
 refine sc hM (λ FN hM => ?_) (λ FN hM => ?_)
 ·refine sq ?_
  refine sg aQ ?_
  refine vs 1 ?_
  refine er ?_
  refine sc hM (λ FO hM => ?_) (λ FO hM => ?_)
  ·refine sg aQ ?_
   refine vs 1 ?_
   refine er ?_
   obtain rfl := aa hM
   exact rt Tryz.func168 (.tmp rfl .nil) sr (hk _ _ _ ⟨rfl, rfl, rfl⟩)
  refine sp ?_
  refine sg aQ ?_
  refine vs 1 ?_
  refine er ?_
  obtain rfl := aa hM
  exact rt Tryz.func168 (.tmp rfl .nil) sr (hk _ _ _ ⟨rfl, rfl, rfl⟩)
 refine sp ?_
 refine sq ?_
 refine sg aQ ?_
 refine vs 1 ?_
 refine er ?_
 refine sc hM (λ RA hM => ?_) (λ RA hM => ?_)
 ·refine sg aQ ?_
  refine vs 1 ?_
  refine er ?_
  obtain rfl := aa hM
  exact rt Tryz.func168 (.tmp rfl .nil) sr (hk _ _ _ ⟨rfl, rfl, rfl⟩)
 refine sp ?_
 refine sq ?_
 refine sg aT ?_
 refine vs 3 ?_
 refine er ?_
 refine sc hM (λ RB hM => ?_) (λ RB hM => ?_)
 ·refine sg aQ ?_
  refine vs 1 ?_
  refine er ?_
  obtain rfl := aa hM
  exact rt Tryz.func168 (.tmp rfl .nil) sr (hk _ _ _ ⟨rfl, rfl, rfl⟩)
 refine sp ?_
 refine sq ?_
 refine sg aT ?_
 refine vs 3 ?_
 refine er ?_
 refine sc hM (λ zE hM => ?_) (λ zE hM => ?_)
 ·refine sg aQ ?_
  refine vs 1 ?_
  refine er ?_
  obtain rfl := aa hM
  exact rt Tryz.func168 (.tmp rfl .nil) sr (hk _ _ _ ⟨rfl, rfl, rfl⟩)
 refine sp ?_
 refine sg aQ ?_
 refine vs 1 ?_
 refine er ?_
 obtain rfl := aa hM
 exact rt Tryz.func168 (.tmp rfl .nil) sr (hk _ _ _ ⟨rfl, rfl, rfl⟩)
theorem axT (x0 : (List Int)) (x1 : (List Int)) {v0 v1 : Value} (h0 : bV CZ 1 R H v0 x0) (h1 : bV CZ 1 R H v1 x1) {r : Int} (hM : GJ x0 x1 = some r) : aB ah 153 #[v0, v1] R H (λ v R' H' => R = R' ∧ H = H' ∧ v = iv r) := by
 unfold GJ at hM
 refine aB.bk Tryz.func153 rfl (n := 36) rfl rfl λ fr cs hk => ?_
 refine sg aQ ?_
 refine vs 1 ?_
 refine es ?_
 refine sg aT ?_
 refine vs 1 ?_
 refine lr h0 Tryz.underlying25 ?_
 refine vs 1 ?_
 refine er ?_
 refine At.block ?_
 refine At.eR hM (λ (xV : Int) R' H' st' => R = R' ∧ H = H' ∧ aF st' [(0, v0), (1, v1), (9, v0), (10, iv (x0.length : Int)), (11, iv xV)]) (λ (C8 : Unit) R' H' st' => R = R' ∧ H = H' ∧ aF st' [(0, v0), (1, v1)]) 0 rfl ⟨rfl, rfl, ay.sub ⟨rfl, rfl, rfl, rfl, rfl, trivial⟩⟩ ?_ ?_
 rotate_right
 ·rintro xV R52 H52 aPQ ⟨rfl, rfl, ap5⟩ x52 hM afk EI abf
  refine At.sub ap5 ?_
  refine sg aQ ?_
  refine vs 1 ?_
  refine es ?_
  refine sc hM (λ zH hM => ?_) (λ zH hM => ?_)
  ·refine sp ?_
   refine sq ?_
   refine At.block ?_
   refine sg cB ?_
   refine vs 1 ?_
   obtain ⟨rA, Gl, hM⟩ := aj hM
   obtain ⟨aJW, aOy, _, rfl, aky, anh⟩ := h0.elem bm Gl
   refine At.s rfl rfl (Ox.aX rfl rfl rfl anh rfl (.put rfl) ?_)
   refine At.ld aV ((aky.sub pp).one (j := 0) rfl) ?_
   refine vs 2 ?_
   refine es ?_
   refine sg bw ?_
   refine vs 2 ?_
   refine lr h1 Tryz.underlying25 ?_
   refine vs 1 ?_
   refine er ?_
   refine sc hM (λ zI hM => ?_) (λ zI hM => ?_)
   ·refine sg aQ ?_
    refine vs 1 ?_
    refine er ?_
    replace hM := abf _ (aa hM).symm
    obtain rfl := aa hM
    exact rt Tryz.func153 (.tmp rfl .nil) sr (hk _ _ _ ⟨rfl, rfl, rfl⟩)
   refine sp ?_
   refine sg cB ?_
   refine vs 2 ?_
   obtain ⟨DM, SL, hM⟩ := aj hM
   obtain ⟨af8, az8, _, rfl, Pd, PF⟩ := h1.elem bm SL
   refine At.s rfl rfl (Ox.aX rfl rfl rfl PF rfl (.put rfl) ?_)
   refine At.ld aV ((Pd.sub pp).one (j := 0) rfl) ?_
   refine vs 1 ?_
   refine nx bw ?_
   refine vs 2 ?_
   obtain ⟨U9, avv, hM⟩ := aj hM
   refine At.cv agX (ayc rA DM  avv) ?_
   rintro _ _ _ ⟨rfl, rfl, rfl⟩
   refine vs 1 ?_
   refine nx aR ?_
   refine vs 2 ?_
   refine er ?_
   refine sc hM (λ ar3 hM => ?_) (λ ar3 hM => ?_)
   ·refine sg aR ?_
    refine vs 2 ?_
    refine er ?_
    replace hM := abf _ (aa hM).symm
    obtain rfl := aa hM
    exact rt Tryz.func153 (.tmp rfl .nil) sr (hk _ _ _ ⟨rfl, rfl, rfl⟩)
   refine sp ?_
   refine At.inBlock ?_
   refine At.rg aR ?_
   refine vs 2 ?_
   refine er ?_
   exact afk _ (aa hM).symm _ _ _ ⟨rfl, rfl, ay.sub ⟨rfl, rfl, rfl, rfl, rfl, trivial⟩⟩
  exact At.exit rfl (EI _ (aa hM).symm _ _ _ ⟨rfl, rfl, ay.sub ⟨rfl, rfl, trivial⟩⟩)
 rintro C8 aeF adP aBp ⟨rfl, rfl, Qv⟩ hM
 refine At.sub Qv ?_
 refine sq ?_
 refine sg cB ?_
 refine vs 1 ?_
 refine lr h0 Tryz.underlying25 ?_
 refine vs 1 ?_
 refine lr h1 Tryz.underlying25 ?_
 refine vs 1 ?_
 refine er ?_
 refine sc hM (λ ar4 hM => ?_) (λ ar4 hM => ?_)
 ·refine sg aQ ?_
  refine vs 1 ?_
  refine er ?_
  obtain rfl := aa hM
  exact rt Tryz.func153 (.tmp rfl .nil) sr (hk _ _ _ ⟨rfl, rfl, rfl⟩)
 refine sp ?_
 refine sg aQ ?_
 refine vs 1 ?_
 refine er ?_
 obtain rfl := aa hM
 exact rt Tryz.func153 (.tmp rfl .nil) sr (hk _ _ _ ⟨rfl, rfl, rfl⟩)
theorem axy (x0 : (List Int)) (x1 : (List Int)) {v0 v1 : Value} (h0 : bV CZ 1 R H v0 x0) (h1 : bV CZ 1 R H v1 x1) {r : Bool} (hM : Cq x0 x1 = some r) : aB ah 113 #[v0, v1] R H (λ v R' H' => R = R' ∧ H = H' ∧ v = .bool r) := by
 unfold Cq at hM
 refine aB.bk Tryz.func113 rfl (n := 23) rfl rfl λ fr cs hk => ?_
 refine sg aQ ?_
 refine vs 1 ?_
 refine nx aAJ ?_
 refine vs 1 ?_
 refine lr h0 Tryz.underlying25 ?_
 refine vs 1 ?_
 refine lr h1 Tryz.underlying25 ?_
 refine vs 2 ?_
 refine bA hM (λ FH hM => ?_) (λ FH hM => ?_)
 ·refine At.kn 10 FH ?_
  refine vs 13 ?_
  refine er ?_
  obtain rfl := aa hM
  exact rt Tryz.func113 (.tmp rfl .nil) sr (hk _ _ _ ⟨rfl, rfl, rfl⟩)
 refine At.kn 10 FH ?_
 refine vs 1 ?_
 refine lr h0 Tryz.underlying25 ?_
 refine vs 1 ?_
 refine lr h1 Tryz.underlying25 ?_
 refine vs 2 ?_
 refine bA hM (λ mE hM => ?_) (λ mE hM => ?_)
 ·refine At.kn 16 mE ?_
  refine vs 2 ?_
  obtain ⟨fB, mH, hM⟩ := aj hM
  refine At.cv agM (axT x0 x1 (h0.sub pp) (h1.sub pp) mH) ?_
  rintro _ _ _ ⟨rfl, rfl, rfl⟩
  refine vs 4 ?_
  refine er ?_
  obtain rfl := aa hM
  exact rt Tryz.func113 (.tmp rfl .nil) sr (hk _ _ _ ⟨rfl, rfl, rfl⟩)
 refine At.kn 16 mE ?_
 refine vs 7 ?_
 refine er ?_
 obtain rfl := aa hM
 exact rt Tryz.func113 (.tmp rfl .nil) sr (hk _ _ _ ⟨rfl, rfl, rfl⟩)
end
end Go.Proofs.YtabamagholjdcaaGreatDoor
