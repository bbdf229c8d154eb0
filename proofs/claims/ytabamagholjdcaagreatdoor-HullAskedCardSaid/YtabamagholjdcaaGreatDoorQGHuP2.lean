/- Walks, part 2: each function computes its model. -/
import Derived.Test.YtabamagholjdcaaGreatDoorQGHuP1
namespace Go.Proofs.YtabamagholjdcaaGreatDoor
open Go.Lg Go.Proofs
set_option maxRecDepth 100000
set_option maxHeartbeats 4000000
section
variable {B : Base} {main : Bool} {ah : Jd Tryz.prog B main} {R : aA} {H : ak}
theorem aaP (x0 : av) (x1 : bn) {aG aI aM : Value} (aE : az bI 5 R aG x0.au) (aJ : az CZ 1 R aI x0.Out) (aL : az bB 2 R aM x0.aU) (zY : x1.weights.length = 5) {r : Bool} (hM : xg x0 x1 = some r) : aB ah 143 #[.agg #[iv x0.aD, iv x0.af.ao, iv x0.af.ax, aG, aI, aM], .agg (List.toArray ([iv x1.fq] ++ (x1.weights.map (Value.int .i64) ++ [])))] R H (λ v R' H' => aO R R' ∧ H = H' ∧ v = .bool r) := by
 unfold xg at hM
 refine aB.bk Tryz.func143 rfl (n := 36) rfl rfl λ fr cs hk => ?_
 refine sg aT ?_
 refine bx λ IU => ?_
 refine bx λ p6 => ?_
 refine vs 1 ?_
 refine es ?_
 refine sg c6 ?_
 refine vs 2 ?_
 refine ld 4 cO z1 ?_
 refine ls aJ Tryz.underlying25 ?_
 refine vs 2 ?_
 refine er ?_
 refine At.block ?_
 refine At.eR hM (λ (qU : Int) R' H' st' => aO R R' ∧ H' = (p6, .cells (List.toArray ([iv x1.fq] ++ (x1.weights.map (Value.int .i64) ++ []))) 125) :: (IU, .cells #[iv x0.aD, iv x0.af.ao, iv x0.af.ax, aG, aI, aM] 102) :: H ∧ aF st' [(2, .pointer (some ⟨IU, 0, none⟩)), (3, .pointer (some ⟨p6, 0, none⟩)), (11, iv (i64 ((x0.Out.length : Int) + 1))), (12, iv qU)]) (λ (aAf : Unit) R' H' st' => aO R R' ∧ H = H' ∧ aF st' []) 0 rfl ⟨rr, rfl, ay.sub ⟨rfl, rfl, rfl, rfl, trivial⟩⟩ ?_ ?_
 rotate_right
 ·rintro qU R64 H64 aPZ ⟨yZ, rfl, aqe⟩ HO hM afm ah3 abj
  refine At.sub aqe ?_
  replace aE := aE.mono yZ
  replace aJ := aJ.mono yZ
  replace aL := aL.mono yZ
  refine sg aQ ?_
  refine vs 1 ?_
  refine es ?_
  refine sc hM (λ zJ hM => ?_) (λ zJ hM => ?_)
  ·refine sp ?_
   refine sq ?_
   refine At.block ?_
   refine sg aT ?_
   refine vs 1 ?_
   refine At.s rfl rfl (Ox.alloc (cs := #[iv 0]) rfl rC rfl λ WE _ _ => ⟨_, (.put rfl), ?_⟩)
   refine At.s rfl rfl (Ox.cI (cs' := #[_]) rfl rfl rfl aV rfl .here rfl rfl rfl (.refl _) ?_)
   refine es ?_
   obtain ⟨oT, Gn, hM⟩ := aj hM
   obtain ⟨yo, Kl, hM⟩ := aj hM
   obtain ⟨nX, Gp, hM⟩ := aj hM
   refine At.cut (λ R' H' st' => R64 = R' ∧ ∃ (nj : Nat), H' = (nj, .cells #[iv nX] 3) :: (WE, .cells #[iv qU] 3) :: (p6, .cells (List.toArray ([iv x1.fq] ++ (x1.weights.map (Value.int .i64) ++ []))) 125) :: (IU, .cells #[iv x0.aD, iv x0.af.ao, iv x0.af.ax, aG, aI, aM] 102) :: H ∧ aF st' [(2, .pointer (some ⟨IU, 0, none⟩)), (3, .pointer (some ⟨p6, 0, none⟩)), (5, .pointer (some ⟨WE, 0, none⟩)), (6, .pointer (some ⟨nj, 0, none⟩)), (11, iv (i64 ((x0.Out.length : Int) + 1))), (12, iv qU)]) ?_ ?_
   ·rintro aGP aEV aQC ⟨rfl, nj, rfl, aqR⟩
    refine At.sub aqR ?_
    refine sg mS ?_
    refine lN [_, _, _, _, _, _] 0 6 dS z3 ?_
    refine ld 0 aV z0 ?_
    obtain ⟨HA, RP, hM⟩ := aj hM
    refine At.cv NG (Tc x0 nX aE aJ aL RP) ?_
    rintro _ _ _ ⟨rfl, rfl, rfl⟩
    refine vs 1 ?_
    refine bA hM (λ Fv hM => ?_) (λ Fv hM => ?_)
    ·refine At.kn 28 Fv ?_
     refine vs 6 ?_
     refine er ?_
     refine At.cond_true rfl ?_
     refine sg aQ ?_
     refine vs 1 ?_
     refine er ?_
     replace hM := abj _ (aa hM).symm
     obtain rfl := aa hM
     exact rt Tryz.func143 (.tmp rfl .nil) (so (so (so (so sr)))) (hk _ _ _ ⟨yZ, rfl, rfl⟩)
    refine At.kn 28 Fv ?_
    refine vs 2 ?_
    refine ld 5 fu z3 ?_
    refine At.s rfl rfl (Ox.makeFunc (vs := #[]) (us := #[_, _]) rfl rfl rfl rfl (.put rfl) ?_)
    obtain ⟨kz, RQ, hM⟩ := aj hM
    refine At.cv agR (ax4 x0.aU (λ y => xo y qU nX) aL.rd ⟨163, #[], #[_, _], rfl, agS, λ R' H' hR hH y r va hA hr => by obtain ⟨_, rfl, rfl⟩ := hA; exact (ax5 y qU nX (aS.box (hH _ z1)) (aS.box (hH _ z0)) hr).mono λ _ _ _ ⟨h1, h2, h3⟩ => ⟨h1 ▸ rr, h2.symm, h3⟩⟩ RQ) ?_
    rintro _ aHf _ ⟨YT, rfl, rfl⟩
    refine vs 1 ?_
    refine er ?_
    refine sc hM (λ Fw hM => ?_) (λ Fw hM => ?_)
    ·refine sg aQ ?_
     refine vs 1 ?_
     refine er ?_
     replace hM := abj _ (aa hM).symm
     obtain rfl := aa hM
     exact rt Tryz.func143 (.tmp rfl .nil) (so (so (so (so sr)))) (hk _ _ _ ⟨(yZ.trans YT), rfl, rfl⟩)
    refine sp ?_
    refine At.inBlock ?_
    refine At.rg aR ?_
    refine vs 2 ?_
    refine er ?_
    exact At.drop (so (so sr)) (afm _ (aa hM).symm _ _ _ ⟨(yZ.trans YT), rfl, ay.sub ⟨rfl, rfl, rfl, rfl, trivial⟩⟩)
   intro O1
   refine At.dw AL mixed ?_
   refine tN 0 [_, _, _, _, _, _] 0 6 dS z2 ?_
   refine Any.tk 1 rfl pp (λ R' H' hR hS => Ox.ck (vs := _) rfl rfl eG (by simp [zY]) ((aS.box (hS _ z1)).part (j := 0) (n := 6) (ee (by simp [zY]))) rfl (.one rfl) ⟨rfl, rfl, rfl⟩) ?_
   refine Any.tk 2 rfl pp (λ R' H' hR hS => Ox.p9 (z := (List.toArray ([] ++ ([false, false, false, false, false].map Value.bool ++ [])))) rfl pZ rfl (.one rfl) ⟨rfl, rfl, rfl⟩) ?_
   refine Any.vs 2 [3, 4] rfl ?_
   refine tl 5 4 cO z2 ?_
   refine tl 6 0 aV z0 ?_
   obtain ⟨aRv, aal, anw⟩ := aJ.cut bm Gn
   refine Any.tk 7 rfl pp (λ R' H' hR hS => Ox.EB rfl rfl rfl rfl anw rfl (.one rfl) ⟨rfl, rfl, rfl⟩) ?_
   refine tw 8 10 ?_ ?_
   ·refine  (Ox.cD rfl rfl rfl rfl fX rfl rfl ((gb [false, false, false, false, false] oT rfl aal.rd Kl).mono ?_))
    rintro _ _ _ ⟨rfl, rfl, Kx, rfl⟩
    refine ⟨_, (.put rfl), ⟨rr, ka, ?_⟩⟩
    refine tw 9 10 ?_ ?_
    ·refine  (Ox.cD rfl rfl rfl rfl vU rfl rfl ((w7 x0 x1 yo aE aJ aL zY Kx Gp).mono ?_))
     rintro _ _ _ ⟨rfl, rfl, rfl⟩
     refine ⟨_, (.put rfl), ⟨rr, ka, ?_⟩⟩
     refine Any.on 10 rfl rfl (aP.to (Ox.alloc (cs := #[iv 0]) rfl rC rfl λ nj _ _ => ⟨_, (.put rfl), ⟨rr, (ku (so sr)), ?_⟩⟩))
     refine Any.on 11 rfl rfl (aP.to (Ox.cI (cs' := #[_]) rfl rfl rfl aV rfl .here rfl rfl rfl (.refl _) ⟨rr, (ku (so sr)), ?_⟩))
     exact Any.done (O1 _ _ _ ⟨rfl, nj, rfl, ay.sub ⟨rfl, rfl, rfl, rfl, rfl, rfl, trivial⟩⟩)
    refine  (aP.to (Ox.alloc (cs := #[iv 0]) rfl rC rfl λ nj _ _ => ⟨_, (.put rfl), ⟨rr, (ku (so sr)), ?_⟩⟩))
    refine Any.cv 9 vU (w7 x0 x1 yo aE aJ aL zY Kx Gp) ?_
    rintro _ _ _ ⟨rfl, rfl, rfl⟩
    refine ⟨rr, (ku (so sr)), ?_⟩
    refine Any.on 11 rfl rfl (aP.to (Ox.cI (cs' := #[_]) rfl rfl rfl aV rfl .here rfl rfl rfl (.refl _) ⟨rr, (ku (so sr)), ?_⟩))
    exact Any.done (O1 _ _ _ ⟨rfl, nj, rfl, ay.sub ⟨rfl, rfl, rfl, rfl, rfl, rfl, trivial⟩⟩)
   refine  (aP.to (Ox.alloc (cs := #[iv 0]) rfl rC rfl λ nj _ _ => ⟨_, (.put rfl), ⟨rr, (ku (so sr)), ?_⟩⟩))
   refine Any.cv 8 fX (gb [false, false, false, false, false] oT rfl aal.rd Kl) ?_
   rintro _ _ _ ⟨rfl, rfl, Kx, rfl⟩
   refine ⟨rr, (ku (so sr)), ?_⟩
   refine Any.cv 9 vU (w7 x0 x1 yo aE aJ aL zY Kx Gp) ?_
   rintro _ _ _ ⟨rfl, rfl, rfl⟩
   refine ⟨rr, (ku (so sr)), ?_⟩
   refine Any.on 11 rfl rfl (aP.to (Ox.cI (cs' := #[_]) rfl rfl rfl aV rfl .here rfl rfl rfl (.refl _) ⟨rr, (ku (so sr)), ?_⟩))
   exact Any.done (O1 _ _ _ ⟨rfl, nj, rfl, ay.sub ⟨rfl, rfl, rfl, rfl, rfl, rfl, trivial⟩⟩)
  exact At.exit rfl (At.drop (so (so sr)) (ah3 _ (aa hM).symm _ _ _ ⟨yZ, rfl, ay.sub trivial⟩))
 rintro aAf aGp aEu aP0 ⟨ai3, rfl, aqf⟩ hM
 refine At.sub aqf ?_
 refine sg aQ ?_
 refine vs 1 ?_
 refine er ?_
 obtain rfl := aa hM
 exact rt Tryz.func143 (.tmp rfl .nil) sr (hk _ _ _ ⟨ai3, rfl, rfl⟩)
theorem axY {S : Type} {ys : bn → S → Option (S × Bool)} {vY : Value} (k : Nat) : ∀ {Inv : S → aA → ak → Prop} {R : aA} {Hy : ak} (_ : iH ah R (j5 fM) vY ys Inv) (x0 : bn) (x1 : Int) (x2 : av) {s0 : S} (_ : Inv s0 R Hy) {ve vf vg : Value} {b2 b3 b4 : Nat} (_ : x0.weights.length = 5) (_ : aS R [] b2 0 [iv x2.aD, iv x2.af.ao, iv x2.af.ax, ve, vf, vg]) (_ : az bI 5 R ve x2.au) (_ : az CZ 1 R vf x2.Out) (_ : az bB 2 R vg x2.aU) (_ : aS R [] b3 0 [vY]) (_ : aS R [] b4 0 [.func (.func 157) #[] #[.pointer (some ⟨b2, 0, none⟩), .pointer (some ⟨b3, 0, none⟩), .pointer (some ⟨b4, 0, none⟩)]]) {r : (S × Bool)} (_ : qD ys k x0 x1 x2 s0 = some r), aB ah 157 #[.agg (List.toArray ([iv x0.fq] ++ (x0.weights.map (Value.int .i64) ++ []))), iv x1, .pointer (some ⟨b2, 0, none⟩), .pointer (some ⟨b3, 0, none⟩), .pointer (some ⟨b4, 0, none⟩)] R Hy (λ v R' H' => aO R R' ∧ Inv r.1 R' H' ∧ v = .bool r.2) := by
 induction k with
 | zero => intro Inv R Hy hY x0 x1 x2 s0 hI ve vf vg b2 b3 b4 ga bC b7 b8 b9 bO cj r hM; exact absurd hM (by simp [qD])
 | succ k ih =>
  intro Inv R Hy hY x0 x1 x2 s0 hI ve vf vg b2 b3 b4 ga bC b7 b8 b9 bO cj r hM
  rw [qD] at hM
  refine aB.bk Tryz.func157 rfl (n := 50) rfl rfl λ fr cs hk => ?_
  refine sg aR ?_
  refine bx λ cq => ?_
  refine vs 1 ?_
  refine es ?_
  refine sg c6 ?_
  refine vs 3 ?_
  refine At.ld dc (bC.any.one (j := 3) rfl) ?_
  refine ls b7 Tryz.underlying24 ?_
  refine vs 1 ?_
  refine er ?_
  refine sc hM (λ om hM => ?_) (λ om hM => ?_)
  ·refine sq ?_
   refine At.eZ hM (λ (lP : (S × Bool)) R' H' st' => aO R R' ∧ ∃ yD, Inv lP.1 R' yD ∧ yD = H' ∧ aF st' [(7, .bool lP.2)])  ?_ ?_
   rotate_right
   ·intro k6 hM Jm
    obtain ⟨eD, mI, hM⟩ := aj hM
    refine bA hM (λ Rg hM => ?_) (λ Rg hM => ?_)
    ·refine At.rg mS ?_
     refine At.s rfl rfl (Ox.ck (vs := [_, _, _, _, _, _]) rfl rfl dS rfl (bC.any.part (j := 0) (n := 6) rfl) rfl (.put rfl) ?_)
     refine At.s rfl rfl (Ox.ck (vs := _) rfl rfl eG (by simp [ga]) ((aS.box z0).part (j := 0) (n := 6) (ee (by simp [ga]))) rfl (.put rfl) ?_)
     refine At.cv XE (aaP x2 x0 b7 b8 b9 ga mI) ?_
     rintro _ yH _ ⟨cV, rfl, rfl⟩
     replace b7 := b7.mono cV
     replace b8 := b8.mono cV
     replace b9 := b9.mono cV
     replace hI := hY.mono (rr) cV hI
     replace bC := bC.up (H := []) cV
     replace bO := bO.up (H := []) cV
     replace hY := hY.up cV
     refine vs 2 ?_
     refine At.kn 20 Rg ?_
     refine vs 5 ?_
     refine er ?_
     exact At.drop (so sr) (Jm _ (aa hM).symm _ _ _ ⟨cV, Hy, hI, rfl, ay.sub ⟨rfl, trivial⟩⟩)
    obtain ⟨gZ, uF, hM⟩ := aj hM
    refine At.rg mS ?_
    refine At.s rfl rfl (Ox.ck (vs := [_, _, _, _, _, _]) rfl rfl dS rfl (bC.any.part (j := 0) (n := 6) rfl) rfl (.put rfl) ?_)
    refine At.s rfl rfl (Ox.ck (vs := _) rfl rfl eG (by simp [ga]) ((aS.box z0).part (j := 0) (n := 6) (ee (by simp [ga]))) rfl (.put rfl) ?_)
    refine At.cv XE (aaP x2 x0 b7 b8 b9 ga mI) ?_
    rintro _ yH _ ⟨cV, rfl, rfl⟩
    replace b7 := b7.mono cV
    replace b8 := b8.mono cV
    replace b9 := b9.mono cV
    replace hI := hY.mono (rr) cV hI
    replace bC := bC.up (H := []) cV
    replace bO := bO.up (H := []) cV
    replace hY := hY.up cV
    refine vs 2 ?_
    refine At.kn 20 Rg ?_
    refine At.ld azH (bO.any.one (j := 0) rfl) ?_
    refine At.s rfl rfl (Ox.ck (vs := _) rfl rfl eG (by simp [ga]) ((aS.box z0).part (j := 0) (n := 6) (ee (by simp [ga]))) rfl (.put rfl) ?_)
    refine At.Uf rfl rfl rfl rfl rfl rfl rfl rfl ((hY.call [(cq, _)] (rr) hI ⟨_, rfl, ⟨ga, rfl⟩⟩ uF).mono ?_)
    rintro _ aeP _ ⟨rX, rfl, VN, aiU, Oq⟩
    replace Oq : _ = (cq, _) :: VN := Oq
    subst Oq
    replace b7 := b7.mono rX
    replace b8 := b8.mono rX
    replace b9 := b9.mono rX
    replace bC := bC.up (H := []) rX
    replace bO := bO.up (H := []) rX
    replace hY := hY.up rX
    refine ⟨_, (.put rfl), ?_⟩
    refine vs 2 ?_
    refine er ?_
    exact At.drop (so sr) (Jm _ (aa hM).symm _ _ _ ⟨(cV.trans rX), VN, aiU, rfl, ay.sub ⟨rfl, trivial⟩⟩)
   rintro lP aeA adI aBj ⟨EP, yD, Oy, rfl, Qp⟩ hM
   refine At.sub Qp ?_
   replace hY := hY.up EP
   obtain rfl := aa hM
   exact rt Tryz.func157 (.tmp rfl .nil) sr (hk _ _ _ ⟨EP, Oy, rfl⟩)
  refine sp ?_
  refine sq ?_
  obtain ⟨lX, Su, hM⟩ := aj hM
  refine At.rg iG ?_
  refine vs 2 ?_
  refine At.ld dc (bC.any.one (j := 3) rfl) ?_
  refine vs 1 ?_
  obtain ⟨aJq, aOb, _, ⟨aQ9, aMT, rfl⟩, akb, amO⟩ := b7.elem jD Su
  refine At.s rfl rfl (Ox.aX rfl rfl rfl amO rfl (.put rfl) ?_)
  refine vs 1 ?_
  refine At.s rfl rfl (Ox.ck (vs := [_, _]) rfl rfl fW rfl (akb.any.part (j := 2) (n := 2) rfl) rfl (.put rfl) ?_)
  refine At.s rfl rfl (Ox.alloc (cs := #[iv 0, iv 0]) rfl Bq rfl λ eS _ _ => ⟨_, (.put rfl), ?_⟩)
  refine At.s rfl rfl (Ox.bG (cs' := #[_, _]) rfl rfl rfl fW rfl (aq rfl (aq rfl aW)) .here rfl rfl rfl (.refl _) ?_)
  refine es ?_
  refine sg aT ?_
  refine vs 1 ?_
  refine ld 0 aV z0 ?_
  refine vs 1 ?_
  refine er ?_
  refine At.block ?_
  refine At.eR hM (λ (dr : (S × Int × (List Int))) R' H' st' => aO R R' ∧ ∃ Ix, Inv dr.1 R' Ix ∧ dr.2.2.length = 5 ∧ H' = (eS, .cells #[iv lX.Weight.ao, iv lX.Weight.ax] 23) :: (cq, .cells (List.toArray ([iv x0.fq] ++ (dr.2.2.map (Value.int .i64) ++ []))) 125) :: Ix ∧ aF st' [(1, iv x1), (4, .pointer (some ⟨b4, 0, none⟩)), (5, .pointer (some ⟨cq, 0, none⟩)), (8, .pointer (some ⟨eS, 0, none⟩)), (9, iv dr.2.1)]) (λ (jz : S) R' H' st' => aO R R' ∧ ∃ MG, Inv jz R' MG ∧ MG = H' ∧ aF st' []) 0 rfl ⟨rr, Hy, hI, ga, rfl, ay.sub ⟨rfl, rfl, rfl, rfl, rfl, trivial⟩⟩ ?_ ?_
  rotate_right
  ·rintro dr VU VD abY ⟨rV, Ix, YE, Gt, rfl, Fp⟩ cL hM El vX G3
   refine At.sub Fp ?_
   replace b7 := b7.mono rV
   replace b8 := b8.mono rV
   replace b9 := b9.mono rV
   replace bC := bC.up (H := []) rV
   replace bO := bO.up (H := []) rV
   replace cj := cj.up (H := []) rV
   replace hY := hY.up rV
   refine sq ?_
   refine sg bw ?_
   refine vs 2 ?_
   refine ld 1 aV z0 ?_
   refine vs 1 ?_
   refine er ?_
   refine sc hM (λ zE hM => ?_) (λ zE hM => ?_)
   ·refine sp ?_
    refine sq ?_
    refine At.block ?_
    refine sq ?_
    obtain ⟨x52, SE, hM⟩ := aj hM
    refine At.rg cB ?_
    refine vs 3 ?_
    refine At.s rfl rfl (Ox.aX rfl rfl rfl (sL Er Gt SE) rfl (.put rfl) ?_)
    refine At.s rfl rfl (Ox.cI rfl rfl rfl aV rfl (.there .here) (M6 SE rfl) (M7 SE rfl) rfl (.refl _) ?_)
    refine es ?_
    obtain ⟨nW, Gj, hM⟩ := aj hM
    refine At.rg c6 ?_
    refine At.ld TN (cj.any.one (j := 0) rfl) ?_
    refine At.s rfl rfl (Ox.ck (vs := _) rfl rfl eG (by simp [Gt]) ((aS.box z1).part (j := 0) (n := 6) (ee (by simp [Gt]))) rfl (.put rfl) ?_)
    refine vs 2 ?_
    refine At.step rfl rfl rfl (Ox.cD rfl rfl rfl rfl XG rfl rfl ((ih (hY.frame [(eS, _), (cq, _)]) (⟨x0.fq, dr.2.2.set x1.toNat dr.2.1⟩ : bn) (i64 (x1 + 1)) x2 ⟨_, YE, rfl⟩ ((List.length_set).trans Gt) bC.any b7 b8 b9 bO cj Gj).mono ?_))
    rintro _ MT _ ⟨jS, ⟨VQ, YH, Ov⟩, rfl⟩
    replace Ov : _ = (eS, _) :: (cq, _) :: VQ := Ov
    subst Ov
    replace b7 := b7.mono jS
    replace b8 := b8.mono jS
    replace b9 := b9.mono jS
    replace bC := bC.up (H := []) jS
    replace bO := bO.up (H := []) jS
    replace cj := cj.up (H := []) jS
    replace hY := hY.up jS
    refine ⟨_, (.put rfl), ?_⟩
    refine vs 1 ?_
    refine er ?_
    refine sc hM (λ oo hM => ?_) (λ oo hM => ?_)
    ·refine sg aQ ?_
     refine vs 1 ?_
     refine er ?_
     replace hM := G3 _ (aa hM).symm
     obtain rfl := aa hM
     exact rt Tryz.func157 (.tmp rfl .nil) (so (so sr)) (hk _ _ _ ⟨(rV.trans jS), YH, rfl⟩)
    refine sp ?_
    refine At.inBlock ?_
    refine At.rg aT ?_
    refine vs 3 ?_
    refine er ?_
    exact El _ (aa hM).symm _ _ _ ⟨(rV.trans jS), VQ, YH, ((List.length_set).trans Gt), rfl, ay.sub ⟨rfl, rfl, rfl, rfl, rfl, trivial⟩⟩
   exact At.exit rfl (At.drop (so (so sr)) (vX _ (aa hM).symm _ _ _ ⟨rV, Ix, YE, rfl, ay.sub trivial⟩))
  rintro jz MM Mr Ud ⟨YN, MG, aiR, rfl, zv⟩ hM
  refine At.sub zv ?_
  replace hY := hY.up YN
  refine sg aQ ?_
  refine vs 1 ?_
  refine er ?_
  obtain rfl := aa hM
  exact rt Tryz.func157 (.tmp rfl .nil) sr (hk _ _ _ ⟨YN, aiR, rfl⟩)
theorem Tl {S : Type} {ys : bn → S → Option (S × Bool)} {vY : Value} {Inv : S → aA → ak → Prop} {R : aA} {Hy : ak} (hY : iH ah R (j5 fM) vY ys Inv) (x0 : av) {s0 : S} (hI : Inv s0 R Hy) {aG aI aM : Value} (aE : az bI 5 R aG x0.au) (aJ : az CZ 1 R aI x0.Out) (aL : az bB 2 R aM x0.aU) {r : S} (hM : oI ys x0 s0 = some r) : aB ah 130 #[.agg #[iv x0.aD, iv x0.af.ao, iv x0.af.ax, aG, aI, aM], vY] R Hy (λ v R' H' => aO R R' ∧ Inv r R' H' ∧ v = .tuple #[]) := by
 unfold oI at hM
 refine aB.bk Tryz.func130 rfl (n := 24) rfl rfl λ fr cs hk => ?_
 refine sg aR ?_
 refine bx λ cq => ?_
 refine At.s rfl rfl (Ox.tW rfl rfl hY.cells rfl λ nc _ _ => ⟨_, (.put rfl), ?_⟩)
 refine nx aQ ?_
 refine At.s rfl rfl (Ox.alloc (cs := #[.nilFunc]) rfl aCV rfl λ kG _ _ => ⟨_, (.put rfl), ?_⟩)
 refine nx aR ?_
 refine At.s rfl rfl (Ox.makeFunc (vs := #[]) (us := #[_, _, _]) rfl rfl rfl rfl (.put rfl) ?_)
 refine At.s rfl rfl (Ox.cI (cs' := #[_]) rfl rfl rfl TN rfl .here rfl rfl rfl (.refl _) ?_)
 refine es ?_
 refine At.nv (H2 := (kG, _) :: (nc, _) :: Hy) (λ X => (kG, _) :: (nc, _) :: X ++ (Hy)) (.cons (.cons .id)) rfl (λ V1 kL iP => ?_)
 replace aE := aE.mono kL
 replace aJ := aJ.mono kL
 replace aL := aL.mono kL
 replace hI := hY.mono (rr) kL hI
 replace hY := hY.up kL
 refine At.nv (H2 := (kG, _) :: Hy) (λ X => (kG, _) :: X ++ (Hy)) (.cons .id) rfl (λ aeJ lD og => ?_)
 replace aE := aE.mono lD
 replace aJ := aJ.mono lD
 replace aL := aL.mono lD
 replace hI := hY.mono (rr) lD hI
 replace iP := iP.up (H := []) lD
 replace hY := hY.up lD
 refine At.nv (H2 := Hy) (λ X => X ++ (Hy)) .id rfl (λ MP kh qj => ?_)
 replace aE := aE.mono kh
 replace aJ := aJ.mono kh
 replace aL := aL.mono kh
 replace hI := hY.mono (rr) kh hI
 replace iP := iP.up (H := []) kh
 replace og := og.up (H := []) kh
 replace hY := hY.up kh
 refine At.rg cB ?_
 refine vs 3 ?_
 refine At.ld aV (iP.any.one (j := 1) rfl) ?_
 refine vs 1 ?_
 refine er ?_
 refine At.block ?_
 refine At.eR hM (λ (kW : (S × Int)) R' H' st' => aO MP R' ∧ ∃ Iw, Inv kW.1 R' Iw ∧ Iw = H' ∧ aF st' [(2, .pointer (some ⟨cq, 0, none⟩)), (4, .pointer (some ⟨kG, 0, none⟩)), (5, iv kW.2)]) (λ (C2 : S) R' H' st' => aO MP R' ∧ ∃ MF, Inv C2 R' MF ∧ MF = H' ∧ aF st' []) 0 rfl ⟨rr, Hy, hI, rfl, ay.sub ⟨rfl, rfl, rfl, trivial⟩⟩ ?_ ?_
 rotate_right
 ·rintro kW R26 H26 aPo ⟨rU, Iw, YD, rfl, apD⟩ fC hM ae9 ahT azQ
  refine At.sub apD ?_
  replace aE := aE.mono rU
  replace aJ := aJ.mono rU
  replace aL := aL.mono rU
  replace iP := iP.up (H := []) rU
  replace og := og.up (H := []) rU
  replace qj := qj.up (H := []) rU
  replace hY := hY.up rU
  refine sq ?_
  refine sg c6 ?_
  refine vs 4 ?_
  refine At.ld aV (iP.any.one (j := 2) rfl) ?_
  refine vs 1 ?_
  refine er ?_
  refine sc hM (λ ux hM => ?_) (λ ux hM => ?_)
  ·refine sp ?_
   refine sq ?_
   refine At.block ?_
   refine sg cB ?_
   refine At.ld TN (qj.any.one (j := 0) rfl) ?_
   refine vs 1 ?_
   refine At.s rfl rfl (Ox.build (cells := (List.toArray ([iv kW.2] ++ ([0, 0, 0, 0, 0].map (Value.int .i64) ++ [])))) rfl Hh rfl rfl rfl (.put rfl) ?_)
   obtain ⟨jH, wN, hM⟩ := aj hM
   refine At.step rfl rfl rfl (Ox.cD rfl rfl rfl rfl XG rfl rfl ((axY 9  (hY.frame []) (⟨kW.2, [0, 0, 0, 0, 0]⟩ : bn) 0 x0 ⟨_, YD, rfl⟩ rfl iP.any aE aJ aL og qj wN).mono ?_))
   rintro _ MS _ ⟨iO, ⟨VO, YF, Ot⟩, rfl⟩
   replace Ot : VO = _ := Ot.symm
   subst Ot
   replace iP := iP.up (H := []) iO
   replace og := og.up (H := []) iO
   replace qj := qj.up (H := []) iO
   replace hY := hY.up iO
   refine ⟨_, (.put rfl), ?_⟩
   refine vs 1 ?_
   refine er ?_
   refine sc hM (λ FN hM => ?_) (λ FN hM => ?_)
   ·replace hM := azQ _ (aa hM).symm
    obtain rfl := aa hM
    exact rt Tryz.func130 .nil sr (hk _ _ _ ⟨((((kL.trans lD).trans kh).trans rU).trans iO), YF, rfl⟩)
   refine sp ?_
   refine At.inBlock ?_
   refine At.rg aT ?_
   refine vs 3 ?_
   refine er ?_
   exact ae9 _ (aa hM).symm _ _ _ ⟨(rU.trans iO), VO, YF, rfl, ay.sub ⟨rfl, rfl, rfl, trivial⟩⟩
  exact At.exit rfl (ahT _ (aa hM).symm _ _ _ ⟨rU, Iw, YD, rfl, ay.sub trivial⟩)
 rintro C2 aFY aD0 aPq ⟨YL, MF, aiQ, rfl, apF⟩ hM
 refine At.sub apF ?_
 replace hY := hY.up YL
 obtain rfl := aa hM
 exact At.oc Tryz.func130 .nil (J.drop sr (hk _ _ _ ⟨(((kL.trans lD).trans kh).trans YL), aiQ, rfl⟩))
theorem ax8 (x1 : (bn → ((List bn) ⊕ Empty) → Option (((List bn) ⊕ Empty) × Bool)) → ((List bn) ⊕ Empty) → Option ((List bn) ⊕ Empty)) {v1 : Value} (h1 : Eg ah R (j5 fM) v1 x1) {r : (List bn)} (hM : Cz x1 = some r) : aB ah 165 #[.slice none 0 0, v1] R H (λ v R' H' => aO R R' ∧ H = H' ∧ ∃ eP, az fM 6 R' eP r ∧ v = eP) := by
 unfold Cz at hM
 refine aB.bk Tryz.func165 rfl (n := 13) rfl rfl λ fr cs hk => ?_
 refine sg aR ?_
 refine At.s rfl rfl (Ox.tW rfl rfl rfl rfl λ j9 _ _ => ⟨_, (.put rfl), ?_⟩)
 refine vs 1 ?_
 refine es ?_
 refine sg aQ ?_
 refine vs 1 ?_
 refine er ?_
 refine At.block ?_
 obtain ⟨aKS, aKT, aKb, rfl, akJ, aoT⟩ := h1
 refine At.G9 (A := (j5 fM)) (λ y s => x1 y s)  hM rfl akJ rfl rfl rfl (λ (iT : (List bn)) R' T H' => aO R R' ∧ ∃ x8 yx, bg fM 6 125 R' x8 iT yx ∧ H' = yx ++ ((j9, .cells #[x8] 103) :: T))  (λ iT R0 T0 H0 q => by obtain ⟨hR, x8, yx, Ff, rfl⟩ := q; exact ⟨yx ++ ((j9, .cells #[x8] 103) :: []), by simp, λ R1 T1 h => ⟨hR.trans h, x8, yx, Ff.mono h, by simp⟩⟩)  (λ v Inv Hy z hY hI hz => aoT _ (rr) _ _ _ _ _ _ hY hI hz) ⟨rr, .slice none 0 0, [], bg.nil, rfl⟩ ?_ ?_
 ·rintro TZ iT ML adJ _ ⟨yY, x8, yx, Ff, rfl⟩ hM
  refine At.inBlock ?_
  refine sg aR ?_
  refine ld 0 qK (List.mem_append_right _ z0) ?_
  refine vs 1 ?_
  refine er ?_
  refine At.fY (H2 := (j9, _) :: (TZ, _) :: H) (λ X => X ++ ((j9, _) :: (TZ, _) :: H)) .id rfl Ff (λ aG7 ai9 akZ => ?_)
  obtain rfl := aa hM
  exact At.qQ (.there .here) Tryz.func165 (.tmp rfl .nil) (J.drop (so (so sr)) (hk _ _ _ ⟨(yY.trans ai9), rfl, x8, akZ, rfl⟩))
 rintro aBN yg iT ML We H33 l33 awu agm _ ajg ⟨_, rfl, ⟨uK, rfl⟩⟩ ⟨yY, x8, yx, Ff, rfl⟩ PN z33 hM MX
 refine At.rg aR ?_
 refine At.s rfl rfl (Ox.alloc (cs := (List.toArray ([iv 0] ++ ([0, 0, 0, 0, 0].map (Value.int .i64) ++ [])))) rfl yp rfl λ kI _ _ => ⟨_, (.put rfl), ?_⟩)
 refine At.s rfl rfl (Ox.bG (cs' := _) rfl rfl rfl eG (by simp [uK]) (cr (aq rfl aW) (cr (ew λ _ => rfl) aW)) .here (by simp) (dZ (by simp [uK])) rfl (.refl _) ?_)
 refine er ?_
 refine At.beginRound rfl rfl (.there (.skip (.there .here))) PN ?_
 refine At.block ?_
 refine At.rg cB ?_
 refine At.ld qK ((aS.box (.tail _ (List.mem_append_right _ z0))).one (j := 0) rfl) ?_
 refine At.s rfl rfl (Ox.ck (vs := _) rfl rfl eG (by simp [uK]) ((aS.box z0).part (j := 0) (n := 6) (ee (by simp [uK]))) rfl (.put rfl) ?_)
 refine At.s rfl rfl (Ox.buildSlice (cells := (List.toArray ([iv yg.fq] ++ (yg.weights.map (Value.int .i64) ++ [])))) rfl agt rfl (by decide) afN (bq rfl rfl (by simp [Value.cells, uK]) (dZ (by simp [Value.cells, uK])) bD) rfl λ tU _ _ => ⟨_, (.put rfl), ?_⟩)
 obtain ⟨ry, SB, hM⟩ := aj hM
 refine At.s rfl rfl (Ox.append (K := fM) (λ X => (tU, _) :: (kI, _) :: X ++ ((j9, _) :: (l33, _) :: We)) rfl rfl rfl afE Tryz.underlying103 (by simp) (.cons (.cons .id)) Ff (dR.lit z0 (aK.le (aK.single (x := yg) ⟨uK, rfl⟩ (by simp [uK])) rfl) rfl) SB rfl λ aCn aen Zt => ⟨_, (.put rfl), ?_⟩)
 refine At.s rfl rfl (Ox.cI (cs' := #[_]) rfl rfl rfl qK Zt.one (.there (.there (.skip .here))) rfl rfl rfl (.refl _) ?_)
 refine er ?_
 refine At.inBlock ?_
 exact At.drop (so (so sr)) (MX _ (aa hM).symm _ _ _ (rr) ⟨yY, aCn, aen, Zt, rfl⟩)
theorem axO (x0 : (bn → ((List bn) ⊕ Empty) → Option (((List bn) ⊕ Empty) × Bool)) → ((List bn) ⊕ Empty) → Option ((List bn) ⊕ Empty)) {v0 : Value} (h0 : Eg ah R (j5 fM) v0 x0) {r : (List bn)} (hM : Ag x0 = some r) : aB ah 146 #[v0] R H (λ v R' H' => aO R R' ∧ H = H' ∧ ∃ eP, az fM 6 R' eP r ∧ v = eP) := by
 unfold Ag at hM
 refine aB.bk Tryz.func146 rfl (n := 5) rfl rfl λ fr cs hk => ?_
 refine sg aQ ?_
 refine vs 1 ?_
 refine nx aT ?_
 refine vs 1 ?_
 obtain ⟨cy, eN, hM⟩ := aj hM
 refine At.cv agU (ax8 x0 h0 eN) ?_
 rintro Lx BH _ ⟨fZ, rfl, _, cN, rfl⟩
 refine vs 1 ?_
 refine er ?_
 obtain rfl := aa hM
 exact rt Tryz.func146 (.tmp rfl .nil) sr (hk _ _ _ ⟨fZ, rfl, Lx, cN, rfl⟩)
theorem oK (x0 : av) (x1 : (av → Option Int)) {aG aI aM v1 : Value} (hG : fG R) (aE : az bI 5 R aG x0.au) (aJ : az CZ 1 R aI x0.Out) (aL : az bB 2 R aM x0.aU) (h1 : nZ ah R H (j5 Mq) (VI .i64) v1 x1) {r : (cR × Int)} (hM : mN x0 x1 = some r) : aB ah 89 #[.agg #[iv x0.aD, iv x0.af.ao, iv x0.af.ax, aG, aI, aM], v1] R H (λ v R' H' => aO R R' ∧ ∃ bF gf gh gk acv acw, az bI 5 R' gf r.1.book.au ∧ az CZ 1 R' gh r.1.book.Out ∧ az bB 2 R' gk r.1.book.aU ∧ az fM 6 R' acv r.1.dI ∧ l8 acw r.1.nR bF ∧ v = .tuple #[.agg #[iv r.1.book.aD, iv r.1.book.af.ao, iv r.1.book.af.ax, gf, gh, gk, acv, acw], iv r.2] ∧ H' = bF ++ H) := by
 unfold mN at hM
 refine aB.bk Tryz.func89 rfl (n := 38) rfl rfl λ fr cs hk => ?_
 refine sg aT ?_
 refine bx λ ng => ?_
 refine At.s rfl rfl (Ox.alloc (cs := #[iv 0, iv 0, iv 0, .slice none 0 0, .slice none 0 0, .slice none 0 0, .slice none 0 0, .map none]) rfl m4 rfl λ eS _ _ => ⟨_, (.put rfl), ?_⟩)
 refine vs 1 ?_
 refine es ?_
 refine sg aT ?_
 refine lN [_, _, _, _, _, _] 0 6 bp z1 ?_
 obtain ⟨cL, uG, hM⟩ := aj hM
 refine At.cv tZ (uT x0 hG aE aJ aL uG) ?_
 rintro _ IE _ ⟨jv, rfl, rfl⟩
 replace aE := aE.mono jv
 replace aJ := aJ.mono jv
 replace aL := aL.mono jv
 replace h1 := h1.up jv pp
 refine vs 1 ?_
 refine nx aR ?_
 refine vs 2 ?_
 refine er ?_
 refine sc hM (λ ux hM => ?_) (λ ux hM => ?_)
 ·refine sg bw ?_
  refine At.s rfl rfl (Ox.build (cells := #[_, _, _, _, _, _, _, _]) rfl Ld rfl bD rfl (.put rfl) ?_)
  refine vs 1 ?_
  refine At.s rfl rfl (Ox.bG (cs' := #[_, _, _, _, _, _, _, _]) rfl rfl rfl ej rfl (aq rfl (aq rfl (aq rfl (aq rfl (aq rfl (aq rfl (aq rfl (aq rfl aW)))))))) .here rfl rfl rfl (.refl _) ?_)
  refine vs 1 ?_
  refine er ?_
  obtain rfl := aa hM
  exact rt Tryz.func89 (.agg rfl ej rfl (aS.box z0) (.tmp rfl .nil)) (so (so sr)) (hk _ _ _ ⟨jv, [], .slice none 0 0, .slice none 0 0, .slice none 0 0, .slice none 0 0, .map none, az.nil, az.nil, az.nil, az.nil, .none, rfl, rfl⟩)
 refine sp ?_
 refine sg c6 ?_
 refine lN [_, _, _, _, _, _] 0 6 bp z1 ?_
 refine At.s rfl rfl (Ox.build (cells := #[_, _, _, _, _, _]) rfl pK rfl (bq rfl rfl rfl rfl bD) rfl (.put rfl) ?_)
 refine At.s rfl rfl (Ox.makeMap rfl rfl λ UA MB JV => ⟨_, (.put rfl), ?_⟩)
 refine At.s rfl rfl (Ox.build (cells := #[_, _, _, _, _, _, _, _]) rfl Ld rfl (bq rfl rfl rfl rfl (bq rfl JV.cells rfl rfl bD)) rfl (.put rfl) ?_)
 refine At.s rfl rfl (Ox.alloc (cs := #[iv 0, iv 0, iv 0, .slice none 0 0, .slice none 0 0, .slice none 0 0, .slice none 0 0, .map none]) rfl m4 rfl λ kI _ _ => ⟨_, (.put rfl), ?_⟩)
 refine At.s rfl rfl (Ox.bG (cs' := #[_, _, _, _, _, _, _, _]) rfl rfl rfl ej rfl (aq rfl (aq rfl (aq rfl (aq aE.one (aq aJ.one (aq aL.one (aq rfl (aq JV.one aW)))))))) .here rfl rfl rfl (.refl _) ?_)
 refine es ?_
 refine sg cB ?_
 refine vs 2 ?_
 refine lN [_, _, _, _, _, _] 0 6 dS z0 ?_
 obtain ⟨fV, sF, hM⟩ := aj hM
 refine At.step rfl rfl rfl (Ox.BN h1 rfl rfl rfl ⟨_, rfl, ⟨_, _, _, aE, aJ, aL, rfl⟩⟩ sF rfl (su (so (aH (so (so sr))))) ?_)
 rintro _ aHP y6 rfl
 replace aE := aE.mono y6
 replace aJ := aJ.mono y6
 replace aL := aL.mono y6
 replace h1 := h1.up y6 pp
 refine ⟨_, (.put rfl), ?_⟩
 refine vs 1 ?_
 refine nx aR ?_
 refine vs 2 ?_
 refine er ?_
 refine sc hM (λ Ry hM => ?_) (λ Ry hM => ?_)
 ·refine sg bw ?_
  refine At.s rfl rfl (Ox.build (cells := #[_, _, _, _, _, _, _, _]) rfl Ld rfl bD rfl (.put rfl) ?_)
  refine vs 1 ?_
  refine At.s rfl rfl (Ox.bG (cs' := #[_, _, _, _, _, _, _, _]) rfl rfl rfl ej rfl (aq rfl (aq rfl (aq rfl (aq rfl (aq rfl (aq rfl (aq rfl (aq rfl aW)))))))) (.there (.skip .here)) rfl rfl rfl (.refl _) ?_)
  refine vs 1 ?_
  refine er ?_
  obtain rfl := aa hM
  exact rt Tryz.func89 (.agg rfl ej rfl (aS.box (.tail _ (List.mem_append_right _ z0))) (.tmp rfl .nil)) (so (aH (so (so sr)))) (hk _ _ _ ⟨(jv.trans y6), [], .slice none 0 0, .slice none 0 0, .slice none 0 0, .slice none 0 0, .map none, az.nil, az.nil, az.nil, az.nil, .none, rfl, rfl⟩)
 refine sp ?_
 refine sq ?_
 refine sg c6 ?_
 refine vs 1 ?_
 refine lN [_, _, _, _, _, _] 0 6 dS z0 ?_
 refine At.s rfl rfl (Ox.makeFunc (vs := #[_]) (us := #[]) rfl rfl rfl rfl (.put rfl) ?_)
 obtain ⟨rz, SD, hM⟩ := aj hM
 refine At.cv agI (axO (λ y s => oI y x0 s) ⟨130, #[_], #[], rfl, NN, λ R' hR w y Inv Hy s z hY hI hz => (Tl hY x0 hI (aE.mono hR) (aJ.mono hR) (aL.mono hR) hz).mono λ _ _ _ h => ⟨h.1, h.2.1⟩⟩ SD) ?_
 rintro aCr aHQ _ ⟨EX, rfl, _, Kh, rfl⟩
 replace aE := aE.mono EX
 replace aJ := aJ.mono EX
 replace aL := aL.mono EX
 refine vs 1 ?_
 refine At.s rfl rfl (Ox.cI (cs' := #[_, _, _, _, _, _, _, _]) rfl rfl rfl qK Kh.one .here rfl rfl rfl (.refl _) ?_)
 refine nx bw ?_
 refine vs 1 ?_
 refine ld 6 qK z0 ?_
 refine ls Kh Tryz.underlying103 ?_
 refine vs 1 ?_
 refine er ?_
 refine sc hM (λ RA hM => ?_) (λ RA hM => ?_)
 ·refine sg aT ?_
  refine At.s rfl rfl (Ox.build (cells := #[_, _, _, _, _, _, _, _]) rfl Ld rfl bD rfl (.put rfl) ?_)
  refine At.s rfl rfl (Ox.bG (cs' := #[_, _, _, _, _, _, _, _]) rfl rfl rfl ej rfl (aq rfl (aq rfl (aq rfl (aq rfl (aq rfl (aq rfl (aq rfl (aq rfl aW)))))))) (.there (.skip .here)) rfl rfl rfl (.refl _) ?_)
  refine vs 1 ?_
  refine er ?_
  obtain rfl := aa hM
  exact rt Tryz.func89 (.agg rfl ej rfl (aS.box (.tail _ (List.mem_append_right _ z0))) (.tmp rfl .nil)) (so (aH (so (so sr)))) (hk _ _ _ ⟨((jv.trans y6).trans EX), [], .slice none 0 0, .slice none 0 0, .slice none 0 0, .slice none 0 0, .map none, az.nil, az.nil, az.nil, az.nil, .none, rfl, rfl⟩)
 refine sp ?_
 refine sg aT ?_
 refine lN [_, _, _, _, _, _, _, _] 0 8 ej z0 ?_
 refine At.s rfl rfl (Ox.bG (cs' := #[_, _, _, _, _, _, _, _]) rfl rfl rfl ej rfl (aq rfl (aq rfl (aq rfl (aq aE.one (aq aJ.one (aq aL.one (aq Kh.one (aq JV.one aW)))))))) (.there (.skip .here)) rfl rfl rfl (.refl _) ?_)
 refine vs 1 ?_
 refine er ?_
 obtain rfl := aa hM
 exact rt Tryz.func89 (.agg rfl ej rfl (aS.box (.tail _ (List.mem_append_right _ z0))) (.tmp rfl .nil)) (so (gV (so (so sr)))) (hk _ _ _ ⟨((jv.trans y6).trans EX), MB, aG, aI, aM, aCr, UA, aE, aJ, aL, Kh, JV, rfl, rfl⟩)
theorem GX (x0 : av) {aG aI aM : Value} (_ : az bI 5 R aG x0.au) (_ : az CZ 1 R aI x0.Out) (_ : az bB 2 R aM x0.aU) {r : Int} (hM : m6 x0 = some r) : aB ah 90 #[.agg #[iv x0.aD, iv x0.af.ao, iv x0.af.ax, aG, aI, aM]] R H (λ v R' H' => R = R' ∧ H = H' ∧ v = iv r) := by
 unfold m6 at hM
 refine aB.bk Tryz.func90 rfl (n := 3) rfl rfl λ fr cs hk => ?_
 refine sg aR ?_
 refine bx λ nc => ?_
 refine vs 1 ?_
 refine nx aQ ?_
 refine vs 1 ?_
 refine er ?_
 obtain rfl := aa hM
 exact rt Tryz.func90 (.tmp rfl .nil) (so sr) (hk _ _ _ ⟨rfl, rfl, rfl⟩)
theorem TB (x0 : av) (x1 : (List Bool)) {aG aI aM : Value} (aE : az bI 5 R aG x0.au) (aJ : az CZ 1 R aI x0.Out) (aL : az bB 2 R aM x0.aU) (l1 : x1.length = 5) {r : (List Int)} (hM : xH x0 x1 = some r) : aB ah 92 #[.agg #[iv x0.aD, iv x0.af.ao, iv x0.af.ax, aG, aI, aM], .agg (List.toArray ([] ++ (x1.map Value.bool ++ [])))] R H (λ v R' H' => aO R R' ∧ H = H' ∧ ∃ eP, az CZ 1 R' eP r ∧ v = eP) := by
 unfold xH at hM
 refine aB.bk Tryz.func92 rfl (n := 24) rfl rfl λ fr cs hk => ?_
 refine sg aT ?_
 refine bx λ vS => ?_
 refine bx λ tV => ?_
 refine vs 1 ?_
 refine nx aQ ?_
 refine vs 1 ?_
 refine es ?_
 refine sg cB ?_
 refine vs 2 ?_
 refine ld 3 dc z1 ?_
 refine ls aE Tryz.underlying24 ?_
 refine vs 1 ?_
 refine er ?_
 refine At.block ?_
 refine At.eI hM (λ (nN : ((List Int) × Int)) R' H' st' => aO R R' ∧ ∃ Hp D7, bg CZ 1 3 R' Hp nN.1 D7 ∧ H' = D7 ++ ((tV, .cells (List.toArray ([] ++ (x1.map Value.bool ++ []))) 112) :: (vS, .cells #[iv x0.aD, iv x0.af.ao, iv x0.af.ax, aG, aI, aM] 102) :: H) ∧ aF st' [(2, .pointer (some ⟨vS, 0, none⟩)), (3, .pointer (some ⟨tV, 0, none⟩)), (5, Hp), (10, iv (x0.au.length : Int)), (11, iv nN.2)]) (λ (KW : (List Int)) R' H' st' => aO R R' ∧ ∃ Ln Mv, bg CZ 1 3 R' Ln KW Mv ∧ H' = Mv ++ (H) ∧ aF st' [(5, Ln)]) 0 rfl ⟨rr, .slice none 0 0, [], bg.nil, rfl, ay.sub ⟨rfl, rfl, rfl, rfl, rfl, trivial⟩⟩ ?_ ?_
 rotate_right
 ·rintro nN R47 H47 aPM ⟨BZ, Hp, D7, Fg, rfl, ap1⟩ yl hM Wo ahY
  refine At.sub ap1 ?_
  replace aE := aE.mono BZ
  replace aJ := aJ.mono BZ
  replace aL := aL.mono BZ
  refine sg aQ ?_
  refine vs 1 ?_
  refine es ?_
  refine sc hM (λ RG hM => ?_) (λ RG hM => ?_)
  ·refine sp ?_
   refine sq ?_
   refine At.block ?_
   refine sg aR ?_
   refine vs 2 ?_
   refine nx bw ?_
   refine lN [_, _, _, _, _, _] 0 6 dS (List.mem_append_right _ z1) ?_
   refine At.s rfl rfl (Ox.ck (vs := _) rfl rfl c8 (by simp [l1]) ((aS.box (List.mem_append_right _ z0)).part (j := 0) (n := 5) (ee (by simp [l1]))) rfl (.put rfl) ?_)
   refine vs 1 ?_
   obtain ⟨jJ, zQ, hM⟩ := aj hM
   refine At.cv XF (aaQ x0 x1 nN.2 aE aJ aL l1 zQ) ?_
   rintro _ aHU _ ⟨OQ, rfl, rfl⟩
   replace Fg := Fg.mono OQ
   refine er ?_
   refine sc hM (λ qu hM => ?_) (λ qu hM => ?_)
   ·refine At.rg cB ?_
    refine vs 2 ?_
    refine At.s rfl rfl (Ox.buildSlice (cells := #[_]) rfl cW rfl (by decide) en (bq rfl rfl rfl rfl bD) rfl λ yQ _ _ => ⟨_, (.put rfl), ?_⟩)
    obtain ⟨k8, zR, hM⟩ := aj hM
    refine At.s rfl rfl (Ox.append (K := CZ) (λ X => (yQ, _) :: X ++ ((tV, _) :: (vS, _) :: H)) rfl rfl rfl iZ Tryz.underlying25 (by simp) (.cons .id) Fg (dR.lit z0 (aK.le (aK.cons (x := nN.2) rfl rfl aK.nil) rfl) rfl) zR rfl λ aCC aep aoP => ⟨_, (.put rfl), ?_⟩)
    refine vs 1 ?_
    refine er ?_
    refine At.inBlock ?_
    refine At.rg aR ?_
    refine vs 2 ?_
    refine er ?_
    exact At.drop (so sr) (Wo _ (aa hM).symm _ _ _ ⟨(BZ.trans OQ), aCC, aep, aoP, rfl, ay.sub ⟨rfl, rfl, rfl, rfl, rfl, trivial⟩⟩)
   refine sp ?_
   refine At.inBlock ?_
   refine At.rg aR ?_
   refine vs 2 ?_
   refine er ?_
   exact Wo _ (aa hM).symm _ _ _ ⟨(BZ.trans OQ), Hp, D7, Fg, rfl, ay.sub ⟨rfl, rfl, rfl, rfl, rfl, trivial⟩⟩
  exact At.exit rfl (At.drop (gV (so (so sr))) (ahY _ (aa hM).symm _ _ _ ⟨BZ, Hp, D7, Fg, rfl, ay.sub ⟨rfl, trivial⟩⟩))
 rintro KW aGi aEm aPN ⟨ai1, Ln, Mv, anT, rfl, ap2⟩ hM
 refine At.sub ap2 ?_
 refine sg aR ?_
 refine vs 2 ?_
 refine er ?_
 refine At.fY (H2 := H) (λ X => X ++ (H)) .id rfl anT (λ aG9 aja ak1 => ?_)
 obtain rfl := aa hM
 exact rt Tryz.func92 (.tmp rfl .nil) sr (hk _ _ _ ⟨(ai1.trans aja), rfl, Ln, ak1, rfl⟩)
theorem Tn {S : Type} {ys : (List Bool) → S → Option (S × Bool)} {vY : Value} {Inv : S → aA → ak → Prop} {R : aA} {Hy : ak} (hY : iH ah R (j5 (H7 Value.bool 5)) vY ys Inv) (x1 : av) (x2 : (List Int)) {s0 : S} (hI : Inv s0 R Hy) {jZ iW j0 v2 : Value} {b1 b2 : Nat} (cK : aS R [] b1 0 [iv x1.aD, iv x1.af.ao, iv x1.af.ax, jZ, iW, j0]) (_ : az bI 5 R jZ x1.au) (lB : az CZ 1 R iW x1.Out) (_ : az bB 2 R j0 x1.aU) (bC : aS R [] b2 0 [v2]) (h2 : az CZ 1 R v2 x2) {r : S} (hM : sP ys x1 x2 s0 = some r) : aB ah 151 #[vY, .pointer (some ⟨b1, 0, none⟩), .pointer (some ⟨b2, 0, none⟩)] R Hy (λ v R' H' => aO R R' ∧ Inv r R' H' ∧ v = .tuple #[]) := by
 unfold sP at hM
 refine aB.bk Tryz.func151 rfl (n := 27) rfl rfl λ fr cs hk => ?_
 refine sg fe ?_
 refine At.s rfl rfl (Ox.p9 (z := (List.toArray ([] ++ ([false, false, false, false, false].map Value.bool ++ [])))) rfl pZ rfl (.put rfl) ?_)
 refine vs 2 ?_
 refine At.ld cO (cK.any.one (j := 4) rfl) ?_
 obtain ⟨LQ, atE, hM⟩ := aj hM
 refine At.cv fX (gb [false, false, false, false, false] x1.Out rfl lB.rd atE) ?_
 rintro _ _ _ ⟨rfl, rfl, Ta, rfl⟩
 refine At.s rfl rfl (Ox.alloc (cs := (List.toArray ([] ++ ([false, false, false, false, false].map Value.bool ++ [])))) rfl kB rfl λ nc _ _ => ⟨_, (.put rfl), ?_⟩)
 refine At.s rfl rfl (Ox.bG (cs' := _) rfl rfl rfl c8 (by simp [Ta]) (cr aW (cr (ew λ _ => rfl) aW)) .here (by simp) (dZ (by simp [Ta])) rfl (.refl _) ?_)
 refine nx aT ?_
 refine At.ld cO (bC.any.one (j := 0) rfl) ?_
 refine ls h2 Tryz.underlying25 ?_
 refine vs 1 ?_
 refine er ?_
 refine At.block ?_
 refine At.eR hM (λ (jA : (S × Int × (List Bool))) R' H' st' => aO R R' ∧ ∃ Iv, Inv jA.1 R' Iv ∧ jA.2.2.length = 5 ∧ H' = (nc, .cells (List.toArray ([] ++ (jA.2.2.map Value.bool ++ []))) 112) :: Iv ∧ aF st' [(0, vY), (4, .pointer (some ⟨nc, 0, none⟩)), (12, v2), (13, iv (x2.length : Int)), (14, iv jA.2.1)]) (λ (C1 : S) R' H' st' => aO R R' ∧ ∃ ME, Inv C1 R' ME ∧ ME = H' ∧ aF st' []) 0 rfl ⟨rr, Hy, hI, Ta, rfl, ay.sub ⟨rfl, rfl, rfl, rfl, rfl, trivial⟩⟩ ?_ ?_
 rotate_right
 ·rintro jA R22 H22 aO7 ⟨EO, Iv, YC, Gs, rfl, apl⟩ Be hM ae4 ahQ azO
  refine At.sub apl ?_
  replace h2 := h2.mono EO
  replace hY := hY.up EO
  refine sg aQ ?_
  refine vs 1 ?_
  refine es ?_
  refine sc hM (λ FN hM => ?_) (λ FN hM => ?_)
  ·refine sp ?_
   refine sq ?_
   refine At.block ?_
   refine sg aT ?_
   obtain ⟨fV, sF, hM⟩ := aj hM
   obtain ⟨aJM, aOp, _, rfl, akp, am8⟩ := h2.elem bm sF
   refine At.s rfl rfl (Ox.aX rfl rfl rfl am8 rfl (.put rfl) ?_)
   refine At.ld aV (akp.any.one (j := 0) rfl) ?_
   refine vs 1 ?_
   refine nx cB ?_
   refine At.s rfl rfl (Ox.ck (vs := _) rfl rfl c8 (by simp [Gs]) ((aS.box z0).part (j := 0) (n := 5) (ee (by simp [Gs]))) rfl (.put rfl) ?_)
   refine vs 1 ?_
   refine At.s rfl rfl (Ox.buildSlice (cells := #[_]) rfl cW rfl (by decide) en (bq rfl rfl rfl rfl bD) rfl λ Eu _ _ => ⟨_, (.put rfl), ?_⟩)
   obtain ⟨eL, oC, hM⟩ := aj hM
   refine At.cv fX (gb jA.2.2 [fV] Gs (bV.lit z0 (aK.le (aK.cons (x := fV) rfl rfl aK.nil) rfl) rfl) oC) ?_
   rintro _ _ _ ⟨rfl, rfl, Cn, rfl⟩
   refine At.s rfl rfl (Ox.bG (cs' := _) rfl rfl rfl c8 (by simp [Cn]) (cr aW (cr (ew λ _ => rfl) aW)) (.there .here) (by simp [Gs]) (dZ (by simp [Cn, Gs])) rfl (.refl _) ?_)
   refine nx bw ?_
   refine vs 1 ?_
   refine At.s rfl rfl (Ox.ck (vs := _) rfl rfl c8 (by simp [Cn]) ((aS.box z1).part (j := 0) (n := 5) (ee (by simp [Cn]))) rfl (.put rfl) ?_)
   obtain ⟨fD, qx, hM⟩ := aj hM
   refine At.Uf rfl rfl rfl rfl rfl rfl rfl rfl ((hY.call [(Eu, _), (nc, _)] (rr) YC ⟨_, rfl, ⟨Cn, rfl⟩⟩ qx).mono ?_)
   rintro _ aeR _ ⟨qi, rfl, VP, YG, Ou⟩
   replace Ou : _ = (Eu, _) :: (nc, _) :: VP := Ou
   subst Ou
   replace hY := hY.up qi
   refine ⟨_, (.put rfl), ?_⟩
   refine vs 1 ?_
   refine er ?_
   refine sc hM (λ arW hM => ?_) (λ arW hM => ?_)
   ·replace hM := azO _ (aa hM).symm
    obtain rfl := aa hM
    exact rt Tryz.func151 .nil (so (so sr)) (hk _ _ _ ⟨(EO.trans qi), YG, rfl⟩)
   refine sp ?_
   refine At.inBlock ?_
   refine At.rg aR ?_
   refine vs 2 ?_
   refine er ?_
   exact At.drop (so sr) (ae4 _ (aa hM).symm _ _ _ ⟨(EO.trans qi), VP, YG, Cn, rfl, ay.sub ⟨rfl, rfl, rfl, rfl, rfl, trivial⟩⟩)
  exact At.exit rfl (At.drop (so sr) (ahQ _ (aa hM).symm _ _ _ ⟨EO, Iv, YC, rfl, ay.sub trivial⟩))
 rintro C1 aFK aDN aPc ⟨YK, ME, aiP, rfl, apr⟩ hM
 refine At.sub apr ?_
 replace hY := hY.up YK
 obtain rfl := aa hM
 exact At.oc Tryz.func151 .nil (J.drop sr (hk _ _ _ ⟨YK, aiP, rfl⟩))
theorem Tb (x0 : av) (x1 : (List Int)) {aG aI aM v1 : Value} (aE : az bI 5 R aG x0.au) (aJ : az CZ 1 R aI x0.Out) (aL : az bB 2 R aM x0.aU) (h1 : az CZ 1 R v1 x1) {r : (av × (List Int))} (hM : Ad x0 x1 = some r) : aB ah 102 #[.agg #[iv x0.aD, iv x0.af.ao, iv x0.af.ax, aG, aI, aM], v1] R H (λ v R' H' => aO R R' ∧ H = H' ∧ ∃ acz acA acB Ev acC WI, aS R' [] Ev 0 [iv r.1.aD, iv r.1.af.ao, iv r.1.af.ax, acz, acA, acB] ∧ az bI 5 R' acz r.1.au ∧ az CZ 1 R' acA r.1.Out ∧ az bB 2 R' acB r.1.aU ∧ aS R' [] WI 0 [acC] ∧ az CZ 1 R' acC r.2 ∧ v = .func (.func 151) #[] #[.pointer (some ⟨Ev, 0, none⟩), .pointer (some ⟨WI, 0, none⟩)]) := by
 unfold Ad at hM
 refine aB.bk Tryz.func102 rfl (n := 6) rfl rfl λ fr cs hk => ?_
 refine sg aT ?_
 refine bx λ rN => ?_
 refine At.s rfl rfl (Ox.tW rfl rfl h1.cells rfl λ Et _ _ => ⟨_, (.put rfl), ?_⟩)
 refine vs 1 ?_
 refine nx aR ?_
 refine At.s rfl rfl (Ox.makeFunc (vs := #[]) (us := #[_, _]) rfl rfl rfl rfl (.put rfl) ?_)
 refine vs 1 ?_
 refine er ?_
 refine At.nv (H2 := (Et, _) :: H) (λ X => (Et, _) :: X ++ (H)) (.cons .id) rfl (λ aG0 EU OV => ?_)
 replace aE := aE.mono EU
 replace aJ := aJ.mono EU
 replace aL := aL.mono EU
 replace h1 := h1.mono EU
 refine At.nv (H2 := H) (λ X => X ++ (H)) .id rfl (λ aG3 B2 ajm => ?_)
 replace aE := aE.mono B2
 replace aJ := aJ.mono B2
 replace aL := aL.mono B2
 replace h1 := h1.mono B2
 replace OV := OV.up (H := []) B2
 obtain rfl := aa hM
 exact rt Tryz.func102 (.tmp rfl .nil) sr (hk _ _ _ ⟨(EU.trans B2), rfl, aG, aI, aM, rN, v1, Et, OV, aE, aJ, aL, ajm, h1, rfl⟩)
theorem TC (x0 : cR) (x1 : (List Int)) {aG aI aM iE jE v1 : Value} (aE : az bI 5 R aG x0.book.au) (aJ : az CZ 1 R aI x0.book.Out) (aL : az bB 2 R aM x0.book.aU) (_ : az fM 6 R iE x0.dI) (BX : m8 R jE x0.nR) (h1 : az CZ 1 R v1 x1) {r : Int} (hM : AD x0 x1 = some r) : aB ah 94 #[.agg #[iv x0.book.aD, iv x0.book.af.ao, iv x0.book.af.ax, aG, aI, aM, iE, jE], v1] R H (λ v R' H' => aO R R' ∧ H = H' ∧ v = iv r) := by
 unfold AD at hM
 refine aB.bk Tryz.func94 rfl (n := 19) rfl rfl λ fr cs hk => ?_
 refine sg aR ?_
 refine bx λ j8 => ?_
 refine vs 1 ?_
 refine nx aR ?_
 refine At.s rfl rfl (Ox.alloc (cs := #[iv 0]) rfl rC rfl λ g9 _ _ => ⟨_, (.put rfl), ?_⟩)
 refine At.s rfl rfl (Ox.cI (cs' := #[_]) rfl rfl rfl aV rfl .here rfl rfl rfl (.refl _) ?_)
 refine es ?_
 refine sg bw ?_
 refine vs 1 ?_
 refine lN [_, _, _, _, _, _] 0 6 dS z1 ?_
 refine vs 1 ?_
 obtain ⟨dW, uE, hM⟩ := aj hM
 refine At.cv NF (Tb x0.book x1 aE aJ aL h1 uE) ?_
 rintro _ MQ _ ⟨um, rfl, aQQ, aQR, aQS, aJn, aQT, aJo, aue, aub, auc, aud, aug, auf, rfl⟩
 replace BX := BX.mono um
 refine er ?_
 refine At.block ?_
 refine At.G9 (A := (j5 (H7 Value.bool 5))) (λ y s => sP y dW.1 dW.2 s)  hM rfl NP rfl rfl rfl (λ (qT : Int) R' T H' => aO MQ R' ∧ H' = (g9, .cells #[iv qT] 3) :: (j8, .cells #[iv x0.book.aD, iv x0.book.af.ao, iv x0.book.af.ax, aG, aI, aM, iE, jE] 106) :: T)  (λ qT R0 T0 H0 q => by obtain ⟨hR, rfl⟩ := q; exact ⟨(g9, .cells #[iv qT] 3) :: (j8, .cells #[iv x0.book.aD, iv x0.book.af.ao, iv x0.book.af.ax, aG, aI, aM, iE, jE] 106) :: [], by simp, λ R1 T1 h => ⟨hR.trans h, by simp⟩⟩)  (λ v Inv Hy z hY hI hz => (Tn hY dW.1 dW.2 hI aue aub auc aud aug auf hz).mono λ _ _ _ h => ⟨h.1, h.2.1⟩) ⟨rr, rfl⟩ ?_ ?_
 ·rintro r30 qT R30 aD2 _ ⟨Jx, rfl⟩ hM
  refine At.inBlock ?_
  refine sg aR ?_
  refine ld 0 aV z0 ?_
  refine vs 1 ?_
  refine er ?_
  obtain rfl := aa hM
  exact At.qQ (.there (.there .here)) Tryz.func94 (.tmp rfl .nil) (J.drop (so (so (so sr))) (hk _ _ _ ⟨(um.trans Jx), rfl, rfl⟩))
 rintro aQE DD qT R30 Wd H30 l30 aaq aKe _ aK3 ⟨_, rfl, ⟨GA, rfl⟩⟩ ⟨Jx, rfl⟩ anz z30 hM afc
 replace BX := BX.mono Jx
 refine At.rg aR ?_
 refine At.s rfl rfl (Ox.alloc (cs := (List.toArray ([] ++ ([false, false, false, false, false].map Value.bool ++ [])))) rfl kB rfl λ e7 _ _ => ⟨_, (.put rfl), ?_⟩)
 refine At.s rfl rfl (Ox.bG (cs' := _) rfl rfl rfl c8 (by simp [GA]) (cr aW (cr (ew λ _ => rfl) aW)) .here (by simp) (dZ (by simp [GA])) rfl (.refl _) ?_)
 refine er ?_
 refine At.beginRound rfl rfl (.there (.there (.there .here))) anz ?_
 refine At.block ?_
 refine At.draw (n := 7) (is := [0, 1, 2, 3, 4, 5, 6]) (many ((e7, .cells (List.toArray ([] ++ (DD.map Value.bool ++ []))) 112) :: (g9, .cells #[iv qT] 3) :: (j8, .cells #[iv x0.book.aD, iv x0.book.af.ao, iv x0.book.af.ax, aG, aI, aM, iE, jE] 106) :: (l30, .loop { aaq with state := .busy }) :: Wd) [(6, (e7, .cells (List.toArray ([] ++ (DD.map Value.bool ++ []))) 112) :: (j8, .cells #[iv x0.book.aD, iv x0.book.af.ao, iv x0.book.af.ax, aG, aI, aM, iE, jE] 106) :: (l30, .loop { aaq with state := .busy }) :: Wd)]) mixed rfl (by decide +kernel) rfl rfl ?_
 refine ts 0 [5, 6] rfl (aN rfl (bf (su (so (sk (so (so sr))))))) (su (so (sk (so (so sr))))) (λ R' H' hR hS => Ox.bu rfl rfl aV ((aS.box (hS _ z0)).one (j := 0) rfl) rfl (.one rfl) ⟨rfl, rfl, rfl⟩) ?_
 refine Any.vs 1 [1] rfl ?_
 refine ts 2 [4, 5, 6] rfl (aN rfl (bf (su (so (so (sk (so sr))))))) (su (so (so (sk (so sr))))) (λ R' H' hR hS => Ox.bu rfl rfl TK ((aS.box (hS _ z0)).one (j := 7) rfl) rfl (.one rfl) ⟨rfl, rfl, rfl⟩) ?_
 refine ts 3 [4, 5, 6] rfl (aN rfl (bf (su (sk (so (so (so sr))))))) (su (sk (so (so (so sr))))) (λ R' H' hR hS => Ox.ck (vs := _) rfl rfl c8 (by simp [GA]) ((aS.box (hS _ z0)).part (j := 0) (n := 5) (ee (by simp [GA]))) rfl (.one rfl) ⟨rfl, rfl, rfl⟩) ?_
 refine ts 4 [5, 6] rfl (aN rfl (bf (su (so (so (so (so sr))))))) (su (so (so (so (so sr))))) (λ R' H' hR hS => Ox.lookup (k := DD) rfl rfl rfl TD (BX.mono hR) GA rfl (.one rfl) ⟨rfl, rfl, rfl⟩) ?_
 refine ts 5 [6] rfl (aN rfl (bf (su (so (so (so (so sr))))))) (su (so (so (so (so sr))))) (λ R' H' hR hS => Ox.max (a := qT) (l := [nG x0.nR DD]) rfl rfl rfl (.one rfl) ⟨rfl, rfl, rfl⟩) ?_
 refine Any.on 6 rfl rfl (aP.to (Ox.cI (cs' := #[_]) rfl rfl rfl aV rfl (.there .here) rfl rfl rfl (.refl _) ⟨rr, (bL rfl (su (sk (so sr)))), ?_⟩))
 refine Any.done ?_
 refine At.inBlock ?_
 exact At.drop (so sr) (afc _ (aa hM).symm _ _ _ (rr) ⟨Jx, rfl⟩)
theorem ayG (x0 : av) {aG aI aM : Value} (hG : fG R) (hK : yF ah) (aE : az bI 5 R aG x0.au) (aJ : az CZ 1 R aI x0.Out) (aL : az bB 2 R aM x0.aU) {r : ((List Int) × Int)} (hM : CE x0 = some r) : aB ah 20 #[.agg #[iv x0.aD, iv x0.af.ao, iv x0.af.ax, aG, aI, aM]] R H (λ v R' H' => aO R R' ∧ H = H' ∧ ∃ eP, az CZ 1 R' eP r.1 ∧ v = .tuple #[eP, iv r.2]) := by
 unfold CE at hM
 refine aB.bk Tryz.func20 rfl (n := 44) rfl rfl λ fr cs hk => ?_
 refine sg aT ?_
 refine bx λ cM => ?_
 refine vs 2 ?_
 refine nx eK ?_
 refine lN [_, _, _, _, _, _] 0 6 bp z0 ?_
 obtain ⟨dP, sI, hM⟩ := aj hM
 refine At.cv od (oK x0 (λ y => m6 y) hG aE aJ aL ⟨90, #[], #[], rfl, EE, λ R' H' hR hH y r va hA hr => by obtain ⟨_, rfl, ⟨pN, oP, pO, gB, fR, gC, rfl⟩⟩ := hA; exact (GX y gB fR gC hr).mono λ _ _ _ ⟨h1, h2, h3⟩ => ⟨h1 ▸ rr, h2.symm, h3⟩⟩ sI) ?_
 rintro _ aHT _ ⟨OP, aFj, aCx, aCy, aCz, aCA, aCB, pe, pg, pn, qy, aaf, rfl, rfl⟩
 replace aJ := aJ.mono OP
 refine vs 3 ?_
 refine At.s rfl rfl (Ox.alloc (cs := #[iv 0, iv 0, iv 0, .slice none 0 0, .slice none 0 0, .slice none 0 0, .slice none 0 0, .map none]) rfl m4 rfl λ p6 _ _ => ⟨_, (.put rfl), ?_⟩)
 refine At.s rfl rfl (Ox.bG (cs' := #[_, _, _, _, _, _, _, _]) rfl rfl rfl ej rfl (aq rfl (aq rfl (aq rfl (aq pe.one (aq pg.one (aq pn.one (aq qy.one (aq aaf.one aW)))))))) .here rfl rfl rfl (.refl _) ?_)
 refine vs 1 ?_
 refine es ?_
 refine sg aR ?_
 refine vs 2 ?_
 refine er ?_
 refine sc hM (λ qu hM => ?_) (λ qu hM => ?_)
 ·refine sg aT ?_
  refine vs 3 ?_
  refine er ?_
  obtain rfl := aa hM
  exact rt Tryz.func20 (.tmp rfl (.tmp rfl .nil)) (so (aH (so sr))) (hk _ _ _ ⟨OP, rfl, .slice none 0 0, az.nil, rfl⟩)
 refine sp ?_
 refine sg aR ?_
 refine lN [_, _, _, _, _, _, _, _] 0 8 ej z0 ?_
 obtain ⟨ym, SJ, hM⟩ := aj hM
 refine At.step rfl rfl rfl (Ox.cD rfl rfl rfl rfl Jj rfl rfl ((aB.hole (G := (λ X => (p6, _) :: X ++ ((cM, _) :: H))) (.cons .id) (hK dP.1 pe pg pn qy aaf SJ)).mono ?_))
 rintro _ aHV _ ⟨_, ⟨B6, ze, rfl, rfl⟩, rfl⟩
 replace aJ := aJ.mono B6
 replace pe := pe.mono B6
 replace pg := pg.mono B6
 replace pn := pn.mono B6
 replace qy := qy.mono B6
 refine ⟨_, (.put rfl), ?_⟩
 refine nx aQ ?_
 refine vs 1 ?_
 refine es ?_
 refine sq ?_
 refine At.dw iG mixed ?_
 refine Any.vs 1 [0] rfl ?_
 refine tN 1 [_, _, _, _, _, _] 0 6 dS z0 ?_
 refine Any.tk 2 rfl pp (λ R' H' hR hS => Ox.p9 (z := (List.toArray ([] ++ ([false, false, false, false, false].map Value.bool ++ [])))) rfl pZ rfl (.one rfl) ⟨rfl, rfl, rfl⟩) ?_
 refine Any.vs 1 [3] rfl ?_
 refine tl 4 4 cO z1 ?_
 refine Any.vs 1 [8] rfl ?_
 obtain ⟨k8, zR, hM⟩ := aj hM
 refine Any.cv 5 fX (gb [false, false, false, false, false] x0.Out rfl aJ.rd zR) ?_
 rintro _ _ _ ⟨rfl, rfl, axt, rfl⟩
 refine kp ?_
 obtain ⟨DL, avo, hM⟩ := aj hM
 refine Any.cv 6 N1 (TB dP.1.book k8 pe pg pn axt avo) ?_
 rintro aCD Wa _ ⟨y8, rfl, _, Ki, rfl⟩
 replace ze := ze.mono y8
 replace pe := pe.mono y8
 replace pg := pg.mono y8
 replace pn := pn.mono y8
 replace qy := qy.mono y8
 refine ⟨y8, ka, ?_⟩
 refine Any.tk 7 rfl pp (λ R' H' hR hS => Ox.wW (K := CZ) (k := 1) (xs := DL) rfl rfl (Ki.mono hR) Tryz.underlying25 rfl (.one rfl) ⟨rfl, rfl, rfl⟩) ?_
 refine Any.done ?_
 refine At.block ?_
 refine At.eI hM (λ (qW : ((List Int) × Int)) R' H' st' => aO Wa R' ∧ ∃ Hr yy, bg CZ 1 3 R' Hr qW.1 yy ∧ H' = yy ++ ((p6, .cells #[iv dP.1.book.aD, iv dP.1.book.af.ao, iv dP.1.book.af.ax, aCx, aCy, aCz, aCA, aCB] 106) :: (cM, .cells #[iv x0.aD, iv x0.af.ao, iv x0.af.ax, aG, aI, aM] 28) :: H) ∧ aF st' [(1, .pointer (some ⟨cM, 0, none⟩)), (4, .pointer (some ⟨p6, 0, none⟩)), (6, Hr), (25, aCD), (26, iv (DL.length : Int)), (27, iv qW.2)]) (λ (K3 : (List Int)) R' H' st' => aO Wa R' ∧ ∃ Lq My, bg CZ 1 3 R' Lq K3 My ∧ H' = My ++ (H) ∧ aF st' [(6, Lq)]) 0 rfl ⟨rr, .slice none 0 0, [], bg.nil, rfl, ay.sub ⟨rfl, rfl, rfl, rfl, rfl, rfl, trivial⟩⟩ ?_ ?_
 rotate_right
 ·rintro qW R70 H70 aP7 ⟨uj, Hr, yy, zi, rfl, aqm⟩ kA hM Wr ah6
  refine At.sub aqm ?_
  replace ze := ze.mono uj
  replace pe := pe.mono uj
  replace pg := pg.mono uj
  replace pn := pn.mono uj
  replace qy := qy.mono uj
  replace Ki := Ki.mono uj
  refine sg aQ ?_
  refine vs 1 ?_
  refine es ?_
  refine sc hM (λ zJ hM => ?_) (λ zJ hM => ?_)
  ·refine sp ?_
   refine sq ?_
   refine At.block ?_
   refine sg aT ?_
   obtain ⟨kC, Gm, hM⟩ := aj hM
   obtain ⟨aJ6, aOG, _, rfl, akG, anr⟩ := Ki.elem bm Gm
   refine At.s rfl rfl (Ox.aX rfl rfl rfl anr rfl (.put rfl) ?_)
   refine At.ld aV (akG.any.one (j := 0) rfl) ?_
   refine vs 1 ?_
   refine es ?_
   refine At.dw fe mixed ?_
   refine tN 0 [_, _, _, _, _, _, _, _] 0 8 ej (List.mem_append_right _ z0) ?_
   refine Any.vs 2 [1, 4] rfl ?_
   refine tl 5 0 aV (List.mem_append_right _ z1) ?_
   refine Any.on 2 rfl rfl (aP.to (Ox.buildSlice (cells := #[_]) rfl cW rfl (by decide) en (bq rfl rfl rfl rfl bD) rfl λ p7 _ _ => ⟨_, (.put rfl), ⟨rr, (ku (so sr)), ?_⟩⟩))
   refine Any.qd (K := CZ) (kk := 1) (H2 := yy ++ ((p6, _) :: (cM, _) :: H)) (λ X => X ++ (yy ++ ((p6, _) :: (cM, _) :: H))) .id rfl (aK.le (aK.cons (x := kC) rfl rfl aK.nil) rfl) rfl (by decide) (by decide) (λ _ => pp) (λ aHd wq ak5 => ?_)
   replace ze := ze.mono wq
   replace zi := zi.mono wq
   replace pe := pe.mono wq
   replace pg := pg.mono wq
   replace pn := pn.mono wq
   replace qy := qy.mono wq
   obtain ⟨yo, Kl, hM⟩ := aj hM
   refine Any.cv 3 N2 (TC (⟨⟨dP.1.book.aD, ⟨dP.1.book.af.ao, dP.1.book.af.ax⟩, dP.1.book.au, dP.1.book.Out, dP.1.book.aU⟩, dP.1.dI, ym⟩ : cR) [kC] pe pg pn qy ze ak5 Kl) ?_
   rintro _ aH1 _ ⟨JL, rfl, rfl⟩
   replace zi := zi.mono JL
   refine ⟨JL, ka, ?_⟩
   refine Any.vs 1 [6] rfl ?_
   refine Any.done ?_
   refine sc hM (λ FW hM => ?_) (λ FW hM => ?_)
   ·refine At.rg cB ?_
    refine vs 2 ?_
    refine At.s rfl rfl (Ox.buildSlice (cells := #[_]) rfl cW rfl (by decide) en (bq rfl rfl rfl rfl bD) rfl λ b99 _ _ => ⟨_, (.put rfl), ?_⟩)
    obtain ⟨HA, RP, hM⟩ := aj hM
    refine At.s rfl rfl (Ox.append (K := CZ) (λ X => (b99, _) :: X ++ ((p6, _) :: (cM, _) :: H)) rfl rfl rfl iZ Tryz.underlying25 (by simp) (.cons .id) zi (dR.lit z0 (aK.le (aK.cons (x := kC) rfl rfl aK.nil) rfl) rfl) RP rfl λ aBY ad8 aoy => ⟨_, (.put rfl), ?_⟩)
    refine vs 1 ?_
    refine er ?_
    refine At.inBlock ?_
    refine At.rg aR ?_
    refine vs 2 ?_
    refine er ?_
    exact At.drop (so sr) (Wr _ (aa hM).symm _ _ _ ⟨((uj.trans wq).trans JL), aBY, ad8, aoy, rfl, ay.sub ⟨rfl, rfl, rfl, rfl, rfl, rfl, trivial⟩⟩)
   refine sp ?_
   refine At.inBlock ?_
   refine At.rg aR ?_
   refine vs 2 ?_
   refine er ?_
   exact Wr _ (aa hM).symm _ _ _ ⟨((uj.trans wq).trans JL), Hr, yy, zi, rfl, ay.sub ⟨rfl, rfl, rfl, rfl, rfl, rfl, trivial⟩⟩
  exact At.exit rfl (At.drop (gV (so (so sr))) (ah6 _ (aa hM).symm _ _ _ ⟨uj, Hr, yy, zi, rfl, ay.sub ⟨rfl, trivial⟩⟩))
 rintro K3 aGs aEy aP8 ⟨ai5, Lq, My, anZ, rfl, aqn⟩ hM
 refine At.sub aqn ?_
 refine sg aT ?_
 refine vs 3 ?_
 refine er ?_
 refine At.fY (H2 := H) (λ X => X ++ (H)) .id rfl anZ (λ aGQ ai7 akN => ?_)
 obtain rfl := aa hM
 exact rt Tryz.func20 (.tmp rfl (.tmp rfl .nil)) sr (hk _ _ _ ⟨((((OP.trans B6).trans y8).trans ai5).trans ai7), rfl, Lq, akN, rfl⟩)
theorem aze (x0 : av) (x1 : (List Int)) {aG aI aM v1 : Value} {b1 : Nat} (aE : az bI 5 R aG x0.au) (aJ : az CZ 1 R aI x0.Out) (aL : az bB 2 R aM x0.aU) (cK : aS R H b1 0 [v1]) (h1 : az CZ 1 R v1 x1) {r : Int} (hM : CV x0 x1 = some r) : aB ah 98 #[.agg #[iv x0.aD, iv x0.af.ao, iv x0.af.ax, aG, aI, aM], .pointer (some ⟨b1, 0, none⟩)] R H (λ v R' H' => aO R R' ∧ H = H' ∧ v = iv r) := by
 unfold CV at hM
 refine aB.bk Tryz.func98 rfl (n := 32) rfl rfl λ fr cs hk => ?_
 refine sg aR ?_
 refine bx λ jk => ?_
 refine vs 1 ?_
 refine es ?_
 refine sq ?_
 obtain ⟨gY, sA, hM⟩ := aj hM
 obtain ⟨eD, mI, hM⟩ := aj hM
 refine At.cut (λ R' H' st' => aO R R' ∧ H' = (jk, .cells #[iv x0.aD, iv x0.af.ao, iv x0.af.ax, aG, aI, aM] 102) :: H ∧ aF st' [(1, .pointer (some ⟨b1, 0, none⟩)), (2, .pointer (some ⟨jk, 0, none⟩)), (5, iv eD.2)]) ?_ ?_
 ·rintro aGH aEN aQu ⟨y3, rfl, aqJ⟩
  refine At.sub aqJ ?_
  replace aE := aE.mono y3
  replace aJ := aJ.mono y3
  replace h1 := h1.mono y3
  replace cK := cK.le y3
  refine sg aR ?_
  refine vs 2 ?_
  refine er ?_
  refine sc hM (λ zC hM => ?_) (λ zC hM => ?_)
  ·refine sg aR ?_
   refine vs 2 ?_
   refine er ?_
   obtain rfl := aa hM
   exact rt Tryz.func98 (.tmp rfl .nil) (so sr) (hk _ _ _ ⟨y3, rfl, rfl⟩)
  refine sp ?_
  refine sq ?_
  refine sg AL ?_
  refine vs 2 ?_
  refine ld 4 cO z0 ?_
  refine ls aJ Tryz.underlying25 ?_
  refine At.ld cO ((cK.sub (su (so sr))).one (j := 0) rfl) ?_
  refine ls h1 Tryz.underlying25 ?_
  refine vs 3 ?_
  refine ld 3 dc z0 ?_
  refine ls aE Tryz.underlying24 ?_
  refine vs 1 ?_
  refine er ?_
  refine sc hM (λ arK hM => ?_) (λ arK hM => ?_)
  ·refine sg aQ ?_
   refine vs 1 ?_
   refine er ?_
   obtain rfl := aa hM
   exact rt Tryz.func98 (.tmp rfl .nil) (so sr) (hk _ _ _ ⟨y3, rfl, rfl⟩)
  refine sp ?_
  refine sg aQ ?_
  refine vs 1 ?_
  refine er ?_
  obtain rfl := aa hM
  exact rt Tryz.func98 (.tmp rfl .nil) (so sr) (hk _ _ _ ⟨y3, rfl, rfl⟩)
 intro OW
 refine At.dw qR mixed ?_
 refine tN 0 [_, _, _, _, _, _] 0 6 dS z0 ?_
 refine Any.tk 1 rfl pp (λ R' H' hR hS => Ox.p9 (z := (List.toArray ([] ++ ([false, false, false, false, false].map Value.bool ++ [])))) rfl pZ rfl (.one rfl) ⟨rfl, rfl, rfl⟩) ?_
 refine Any.vs 2 [2, 3] rfl ?_
 refine tl 4 4 cO z0 ?_
 refine Any.tk 6 rfl pp (λ R' H' hR hS => Ox.bu rfl rfl cO (((cK.le hR).sub (λ p h => hS p ((su (so sr)) p h))).one (j := 0) rfl) rfl (.one rfl) ⟨rfl, rfl, rfl⟩) ?_
 refine tw 5 11 ?_ ?_
 ·refine  (Ox.cD rfl rfl rfl rfl fX rfl rfl ((gb [false, false, false, false, false] x0.Out rfl aJ.rd sA).mono ?_))
  rintro _ _ _ ⟨rfl, rfl, Kw, rfl⟩
  refine ⟨_, (.put rfl), ⟨rr, ka, ?_⟩⟩
  refine tw 7 11 ?_ ?_
  ·refine  (Ox.cD rfl rfl rfl rfl o5 rfl rfl ((pF x0 gY x1 aE aJ aL Kw h1.rd mI).mono ?_))
   rintro _ yH _ ⟨cV, rfl, w6, rfl⟩
   replace cK := cK.le cV
   refine ⟨_, (.put rfl), ⟨cV, ka, ?_⟩⟩
   refine Any.vs 3 [8, 9, 10] rfl ?_
   refine Any.on 11 rfl rfl (aP.to (Ox.alloc (cs := (List.toArray ([] ++ ([false, false, false, false, false].map Value.bool ++ [])))) rfl kB rfl λ j9 _ _ => ⟨_, (.put rfl), ⟨rr, (ku (so sr)), ?_⟩⟩))
   refine Any.on 12 rfl rfl (aP.to (Ox.bG (cs' := _) rfl rfl rfl c8 (by simp [w6]) (cr aW (cr (ew λ _ => rfl) aW)) .here (by simp) (dZ (by simp [w6])) rfl (.refl _) ⟨rr, (ku (so sr)), ?_⟩))
   refine Any.vs 1 [13] rfl ?_
   exact Any.done (At.drop (so sr) (OW _ _ _ ⟨cV, rfl, ay.sub ⟨rfl, rfl, rfl, trivial⟩⟩))
  refine  (aP.to (Ox.alloc (cs := (List.toArray ([] ++ ([false, false, false, false, false].map Value.bool ++ [])))) rfl kB rfl λ j9 _ _ => ⟨_, (.put rfl), ⟨rr, (ku (so sr)), ?_⟩⟩))
  refine Any.cv 7 o5 (pF x0 gY x1 aE aJ aL Kw h1.rd mI) ?_
  rintro _ yH _ ⟨cV, rfl, w6, rfl⟩
  replace cK := cK.le cV
  refine ⟨cV, (ku (so sr)), ?_⟩
  refine Any.vs 3 [8, 9, 10] rfl ?_
  refine Any.on 12 rfl rfl (aP.to (Ox.bG (cs' := _) rfl rfl rfl c8 (by simp [w6]) (cr aW (cr (ew λ _ => rfl) aW)) .here (by simp) (dZ (by simp [w6])) rfl (.refl _) ⟨rr, (ku (so sr)), ?_⟩))
  refine Any.vs 1 [13] rfl ?_
  exact Any.done (At.drop (so sr) (OW _ _ _ ⟨cV, rfl, ay.sub ⟨rfl, rfl, rfl, trivial⟩⟩))
 refine  (aP.to (Ox.alloc (cs := (List.toArray ([] ++ ([false, false, false, false, false].map Value.bool ++ [])))) rfl kB rfl λ j9 _ _ => ⟨_, (.put rfl), ⟨rr, (ku (so sr)), ?_⟩⟩))
 refine Any.cv 5 fX (gb [false, false, false, false, false] x0.Out rfl aJ.rd sA) ?_
 rintro _ _ _ ⟨rfl, rfl, Kw, rfl⟩
 refine ⟨rr, (ku (so sr)), ?_⟩
 refine Any.cv 7 o5 (pF x0 gY x1 aE aJ aL Kw h1.rd mI) ?_
 rintro _ yH _ ⟨cV, rfl, w6, rfl⟩
 replace cK := cK.le cV
 refine ⟨cV, (ku (so sr)), ?_⟩
 refine Any.vs 3 [8, 9, 10] rfl ?_
 refine Any.on 12 rfl rfl (aP.to (Ox.bG (cs' := _) rfl rfl rfl c8 (by simp [w6]) (cr aW (cr (ew λ _ => rfl) aW)) .here (by simp) (dZ (by simp [w6])) rfl (.refl _) ⟨rr, (ku (so sr)), ?_⟩))
 refine Any.vs 1 [13] rfl ?_
 exact Any.done (At.drop (so sr) (OW _ _ _ ⟨cV, rfl, ay.sub ⟨rfl, rfl, rfl, trivial⟩⟩))
theorem aaK (x0 : cR) (x1 : (bn → Option Bool)) {aG aI aM iE jE v1 : Value} (_ : az bI 5 R aG x0.book.au) (_ : az CZ 1 R aI x0.book.Out) (_ : az bB 2 R aM x0.book.aU) (lz : az fM 6 R iE x0.dI) (_ : m8 R jE x0.nR) (h1 : nZ ah R H (j5 fM) VB v1 x1) {r : Int} (hM : Co x0 x1 = some r) : aB ah 100 #[.agg #[iv x0.book.aD, iv x0.book.af.ao, iv x0.book.af.ax, aG, aI, aM, iE, jE], v1] R H (λ v R' H' => aO R R' ∧ H = H' ∧ v = iv r) := by
 unfold Co at hM
 refine aB.bk Tryz.func100 rfl (n := 29) rfl rfl λ fr cs hk => ?_
 refine sg aR ?_
 refine bx λ vS => ?_
 refine vs 1 ?_
 refine nx aQ ?_
 refine vs 1 ?_
 refine es ?_
 refine sg bw ?_
 refine vs 1 ?_
 refine ld 6 qK z0 ?_
 refine ls lz Tryz.underlying103 ?_
 refine vs 1 ?_
 refine er ?_
 refine At.block ?_
 refine At.eI hM (λ (jY : (Int × Int)) R' H' st' => aO R R' ∧ H' = (vS, .cells #[iv x0.book.aD, iv x0.book.af.ao, iv x0.book.af.ax, aG, aI, aM, iE, jE] 106) :: H ∧ aF st' [(1, v1), (2, .pointer (some ⟨vS, 0, none⟩)), (5, iv jY.1), (9, iE), (10, iv (x0.dI.length : Int)), (11, iv jY.2)]) (λ (mQ : Int) R' H' st' => aO R R' ∧ H' = (vS, .cells #[iv x0.book.aD, iv x0.book.af.ao, iv x0.book.af.ax, aG, aI, aM, iE, jE] 106) :: H ∧ aF st' [(2, .pointer (some ⟨vS, 0, none⟩)), (5, iv mQ)]) 0 rfl ⟨rr, rfl, ay.sub ⟨rfl, rfl, rfl, rfl, rfl, rfl, trivial⟩⟩ ?_ ?_
 rotate_right
 ·rintro jY R46 H46 aPL ⟨ES, rfl, ap0⟩ rz hM Wn Jn
  refine At.sub ap0 ?_
  replace lz := lz.mono ES
  replace h1 := h1.up ES pp
  refine sg aQ ?_
  refine vs 1 ?_
  refine es ?_
  refine sc hM (λ FT hM => ?_) (λ FT hM => ?_)
  ·refine sp ?_
   refine sq ?_
   refine At.block ?_
   refine sg bw ?_
   obtain ⟨HO, avh, hM⟩ := aj hM
   obtain ⟨aJS, aOv, _, ⟨Aa, rfl⟩, akv, anf⟩ := lz.elem Lb avh
   refine At.s rfl rfl (Ox.aX rfl rfl rfl anf rfl (.put rfl) ?_)
   refine At.s rfl rfl (Ox.ck (vs := _) rfl rfl eG (by simp [Aa]) (akv.any.part (j := 0) (n := 6) (ee (by simp [Aa]))) rfl (.put rfl) ?_)
   refine At.s rfl rfl (Ox.alloc (cs := (List.toArray ([iv 0] ++ ([0, 0, 0, 0, 0].map (Value.int .i64) ++ [])))) rfl yp rfl λ jM _ _ => ⟨_, (.put rfl), ?_⟩)
   refine At.s rfl rfl (Ox.bG (cs' := _) rfl rfl rfl eG (by simp [Aa]) (cr (aq rfl aW) (cr (ew λ _ => rfl) aW)) .here (by simp) (dZ (by simp [Aa])) rfl (.refl _) ?_)
   refine nx aT ?_
   refine vs 1 ?_
   refine At.s rfl rfl (Ox.ck (vs := _) rfl rfl eG (by simp [Aa]) ((aS.box z0).part (j := 0) (n := 6) (ee (by simp [Aa]))) rfl (.put rfl) ?_)
   obtain ⟨vB, SH, hM⟩ := aj hM
   refine At.step rfl rfl rfl (Ox.BN h1 rfl rfl rfl ⟨_, rfl, ⟨Aa, rfl⟩⟩ SH rfl (su (so (so sr))) ?_)
   rintro _ aeS rZ rfl
   replace h1 := h1.up rZ pp
   refine ⟨_, (.put rfl), ?_⟩
   refine er ?_
   refine sc hM (λ arY hM => ?_) (λ arY hM => ?_)
   ·refine At.rg aT ?_
    refine vs 3 ?_
    refine er ?_
    refine At.inBlock ?_
    refine At.rg aR ?_
    refine vs 2 ?_
    refine er ?_
    exact At.drop (so sr) (Wn _ (aa hM).symm _ _ _ ⟨(ES.trans rZ), rfl, ay.sub ⟨rfl, rfl, rfl, rfl, rfl, rfl, trivial⟩⟩)
   refine sp ?_
   refine At.inBlock ?_
   refine At.rg aR ?_
   refine vs 2 ?_
   refine er ?_
   exact At.drop (so sr) (Wn _ (aa hM).symm _ _ _ ⟨(ES.trans rZ), rfl, ay.sub ⟨rfl, rfl, rfl, rfl, rfl, rfl, trivial⟩⟩)
  exact At.exit rfl (Jn _ (aa hM).symm _ _ _ ⟨ES, rfl, ay.sub ⟨rfl, rfl, trivial⟩⟩)
 rintro mQ aeD adN aBm ⟨Jy, rfl, Qs⟩ hM
 refine At.sub Qs ?_
 replace lz := lz.mono Jy
 refine sq ?_
 refine sg aQ ?_
 refine vs 1 ?_
 refine er ?_
 refine At.block ?_
 refine sg aR ?_
 refine vs 2 ?_
 refine er ?_
 refine sc hM (λ arZ hM => ?_) (λ arZ hM => ?_)
 ·refine sg aQ ?_
  refine vs 1 ?_
  refine er ?_
  obtain rfl := aa hM
  exact rt Tryz.func100 (.tmp rfl .nil) (so sr) (hk _ _ _ ⟨Jy, rfl, rfl⟩)
 refine sg cB ?_
 refine vs 1 ?_
 refine ld 6 qK z0 ?_
 refine ls lz Tryz.underlying103 ?_
 refine vs 2 ?_
 refine er ?_
 refine sc hM (λ uA hM => ?_) (λ uA hM => ?_)
 ·refine sg aQ ?_
  refine vs 1 ?_
  refine er ?_
  obtain rfl := aa hM
  exact rt Tryz.func100 (.tmp rfl .nil) (so sr) (hk _ _ _ ⟨Jy, rfl, rfl⟩)
 refine sp ?_
 refine At.inBlock ?_
 refine sg aQ ?_
 refine vs 1 ?_
 refine er ?_
 obtain rfl := aa hM
 exact rt Tryz.func100 (.tmp rfl .nil) (so sr) (hk _ _ _ ⟨Jy, rfl, rfl⟩)
theorem axu (x0 : bn) (x1 : cR) (x2 : (List Int)) {jZ iW j0 x5 x6 v2 : Value} {b1 b2 : Nat} (ga : x0.weights.length = 5) (cK : aS R H b1 0 [iv x1.book.aD, iv x1.book.af.ao, iv x1.book.af.ax, jZ, iW, j0, x5, x6]) (lA : az bI 5 R jZ x1.book.au) (lB : az CZ 1 R iW x1.book.Out) (lC : az bB 2 R j0 x1.book.aU) (_ : az fM 6 R x5 x1.dI) (_ : m8 R x6 x1.nR) (bC : aS R H b2 0 [v2]) (h2 : az CZ 1 R v2 x2) {r : Bool} (hM : Cp x0 x1 x2 = some r) : aB ah 101 #[.agg (List.toArray ([iv x0.fq] ++ (x0.weights.map (Value.int .i64) ++ []))), .pointer (some ⟨b1, 0, none⟩), .pointer (some ⟨b2, 0, none⟩)] R H (λ v R' H' => aO R R' ∧ H = H' ∧ v = .bool r) := by
 unfold Cp at hM
 refine aB.bk Tryz.func101 rfl (n := 19) rfl rfl λ fr cs hk => ?_
 refine sg aR ?_
 refine bx λ j9 => ?_
 refine At.s rfl rfl (Ox.alloc (cs := #[.bool false]) rfl Vd rfl λ e7 _ _ => ⟨_, (.put rfl), ?_⟩)
 refine es ?_
 refine sg bw ?_
 refine vs 1 ?_
 refine At.s rfl rfl (Ox.ck (vs := [_, _, _, _, _, _]) rfl rfl dS rfl ((cK.sub (su (so (so sr)))).part (j := 0) (n := 6) rfl) rfl (.put rfl) ?_)
 refine At.ld cO ((bC.sub (su (so (so sr)))).one (j := 0) rfl) ?_
 obtain ⟨lX, Su, hM⟩ := aj hM
 refine At.cv NF (Tb x1.book x2 lA lB lC h2 Su) ?_
 rintro _ V7 _ ⟨y5, rfl, aRa, aRb, aRc, aJs, aRd, aJt, auG, auD, auE, auF, auI, auH, rfl⟩
 replace lA := lA.mono y5
 replace lB := lB.mono y5
 replace lC := lC.mono y5
 replace cK := cK.le y5
 replace bC := bC.le y5
 refine er ?_
 refine At.block ?_
 refine At.T3 (A := (j5 (H7 Value.bool 5))) (λ y s => sP y lX.1 lX.2 s) .ret hM rfl NP rfl rfl rfl (λ (T5 : Unit) R' T H' => aO V7 R' ∧ H' = (e7, .cells #[.bool false] 4) :: (j9, .cells (List.toArray ([iv x0.fq] ++ (x0.weights.map (Value.int .i64) ++ []))) 125) :: T) (λ (abu : Unit) R' T H' => aO V7 R' ∧ H' = (e7, .cells #[.bool false] 4) :: T) (λ T5 R0 T0 H0 q => by obtain ⟨hR, rfl⟩ := q; exact ⟨(e7, .cells #[.bool false] 4) :: (j9, .cells (List.toArray ([iv x0.fq] ++ (x0.weights.map (Value.int .i64) ++ []))) 125) :: [], by simp, λ R1 T1 h => ⟨hR.trans h, by simp⟩⟩) (λ abu R0 T0 H0 q => by obtain ⟨hR, rfl⟩ := q; exact ⟨(e7, .cells #[.bool false] 4) :: [], by simp, λ R1 T1 h => ⟨hR.trans h, by simp⟩⟩) (λ v Inv Hy z hY hI hz => (Tn hY lX.1 lX.2 hI auG auD auE auF auI auH hz).mono λ _ _ _ h => ⟨h.1, h.2.1⟩) ⟨rr, rfl⟩ ?_ ?_ ?_
 ·rintro r35 T5 R35 adK _ ⟨ug, rfl⟩ hM
  replace cK := cK.le ug
  refine At.inBlock ?_
  refine sg aQ ?_
  refine At.s rfl rfl (Ox.cI (cs' := #[_]) rfl rfl rfl jg rfl .here rfl rfl rfl (.refl _) ?_)
  refine er ?_
  obtain rfl := aa hM
  exact At.qQ (.there (.there .here)) Tryz.func101 (.one rfl jg ((aS.box z0).one (j := 0) rfl) .nil) (J.drop (so (so (so sr))) (hk _ _ _ ⟨(y5.trans ug), rfl, rfl⟩))
 ·rintro r35 abu aF7 adK _ ⟨aiZ, rfl⟩ hM
  obtain rfl := aa hM
  exact At.qQ (.there .here) Tryz.func101 (.one rfl jg ((aS.box z0).one (j := 0) rfl) .nil) (J.drop (so (so sr)) (hk _ _ _ ⟨(y5.trans aiZ), rfl, rfl⟩))
 rintro aQF UY T5 R35 T35 H35 l35 aM0 aKf _ ajh ⟨_, rfl, ⟨GB, rfl⟩⟩ ⟨ug, rfl⟩ anA z35 hM afe ahW
 replace lA := lA.mono ug
 replace lB := lB.mono ug
 replace lC := lC.mono ug
 replace cK := cK.le ug
 replace cK := cK.sub (List.Sublist.subset ajh)
 refine At.rg aR ?_
 refine At.s rfl rfl (Ox.alloc (cs := (List.toArray ([] ++ ([false, false, false, false, false].map Value.bool ++ [])))) rfl kB rfl λ ni _ _ => ⟨_, (.put rfl), ?_⟩)
 refine At.s rfl rfl (Ox.bG (cs' := _) rfl rfl rfl c8 (by simp [GB]) (cr aW (cr (ew λ _ => rfl) aW)) .here (by simp) (dZ (by simp [GB])) rfl (.refl _) ?_)
 refine er ?_
 refine At.beginRound rfl rfl (.there (.there (.there .here))) anA ?_
 refine At.block ?_
 refine sq ?_
 refine At.dw eK mixed ?_
 refine Any.vs 1 [0] rfl ?_
 refine Any.tk 1 rfl pp (λ R' H' hR hS => Ox.ck (vs := [_, _, _, _, _, _]) rfl rfl dS rfl (((cK.le hR).sub (λ p h => hS p ((su (so (so (so (so sr))))) p h))).part (j := 0) (n := 6) rfl) rfl (.one rfl) ⟨rfl, rfl, rfl⟩) ?_
 refine Any.vs 1 [2] rfl ?_
 refine Any.tk 3 rfl pp (λ R' H' hR hS => Ox.ck (vs := [_, _, _, _, _, _]) rfl rfl dS rfl (((cK.le hR).sub (λ p h => hS p ((su (so (so (so (so sr))))) p h))).part (j := 0) (n := 6) rfl) rfl (.one rfl) ⟨rfl, rfl, rfl⟩) ?_
 refine Any.tk 4 rfl pp (λ R' H' hR hS => Ox.ck (vs := _) rfl rfl eG (by simp [ga]) ((aS.box (hS _ z2)).part (j := 0) (n := 6) (ee (by simp [ga]))) rfl (.one rfl) ⟨rfl, rfl, rfl⟩) ?_
 refine Any.tk 5 rfl pp (λ R' H' hR hS => Ox.ck (vs := _) rfl rfl c8 (by simp [GB]) ((aS.box (hS _ z0)).part (j := 0) (n := 5) (ee (by simp [GB]))) rfl (.one rfl) ⟨rfl, rfl, rfl⟩) ?_
 obtain ⟨lZ, zO, hM⟩ := aj hM
 refine Any.cv 6 vU (w7 x1.book x0 UY lA lB lC ga GB zO) ?_
 rintro _ _ _ ⟨rfl, rfl, rfl⟩
 refine kp ?_
 obtain ⟨fV, sF, hM⟩ := aj hM
 refine Any.cv 7 NG (Tc x1.book lZ lA lB lC sF) ?_
 rintro _ _ _ ⟨rfl, rfl, rfl⟩
 refine kp ?_
 refine Any.done ?_
 refine sc hM (λ zD hM => ?_) (λ zD hM => ?_)
 ·refine sg aQ ?_
  refine At.s rfl rfl (Ox.cI (cs' := #[_]) rfl rfl rfl jg rfl (.there .here) rfl rfl rfl (.refl _) ?_)
  refine er ?_
  exact At.drop (so (sk (so sr))) (ahW _ (aa hM).symm _ _ _ _ (rr) ⟨ug, rfl⟩ (.inr (.inl ⟨_, rfl, rfl⟩)))
 refine sp ?_
 refine At.inBlock ?_
 exact At.drop (so sr) (afe _ (aa hM).symm _ _ _ (rr) ⟨ug, rfl⟩)
theorem Tw (x0 : av) (x1 : (List Int)) {aG aI aM v1 : Value} (hG : fG R) (aE : az bI 5 R aG x0.au) (aJ : az CZ 1 R aI x0.Out) (aL : az bB 2 R aM x0.aU) (h1 : az CZ 1 R v1 x1) {r : (Int × Int)} (hM : xB x0 x1 = some r) : aB ah 23 #[.agg #[iv x0.aD, iv x0.af.ao, iv x0.af.ax, aG, aI, aM], v1] R H (λ v R' H' => aO R R' ∧ H = H' ∧ v = .tuple #[iv r.1, iv r.2]) := by
 unfold xB at hM
 refine aB.bk Tryz.func23 rfl (n := 20) rfl rfl λ fr cs hk => ?_
 refine sg bw ?_
 refine bx λ j8 => ?_
 refine At.s rfl rfl (Ox.tW rfl rfl h1.cells rfl λ g9 _ _ => ⟨_, (.put rfl), ?_⟩)
 refine vs 2 ?_
 refine nx iG ?_
 refine lN [_, _, _, _, _, _] 0 6 bp z1 ?_
 refine At.s rfl rfl (Ox.makeFunc (vs := #[]) (us := #[_]) rfl rfl rfl rfl (.put rfl) ?_)
 obtain ⟨dW, uE, hM⟩ := aj hM
 refine At.cv od (oK x0 (λ y => CV y x1) hG aE aJ aL ⟨98, #[], #[_], rfl, ahB, λ R' H' hR hH y r va hA hr => by obtain ⟨_, rfl, ⟨pN, oP, pO, gB, fR, gC, rfl⟩⟩ := hA; exact (aze y x1 gB fR gC (aS.box (hH _ z0)) (h1.mono hR) hr).mono λ _ _ _ ⟨h1, h2, h3⟩ => ⟨h1, h2.symm, h3⟩⟩ uE) ?_
 rintro _ MQ _ ⟨um, aee, aB7, aB8, aB9, aCa, aCb, sj, sv, sw, sx, Gb, rfl, rfl⟩
 replace h1 := h1.mono um
 refine vs 3 ?_
 refine At.s rfl rfl (Ox.alloc (cs := #[iv 0, iv 0, iv 0, .slice none 0 0, .slice none 0 0, .slice none 0 0, .slice none 0 0, .map none]) rfl m4 rfl λ ia _ _ => ⟨_, (.put rfl), ?_⟩)
 refine At.s rfl rfl (Ox.bG (cs' := #[_, _, _, _, _, _, _, _]) rfl rfl rfl ej rfl (aq rfl (aq rfl (aq rfl (aq sj.one (aq sv.one (aq sw.one (aq sx.one (aq Gb.one aW)))))))) .here rfl rfl rfl (.refl _) ?_)
 refine vs 1 ?_
 refine es ?_
 refine sg aR ?_
 refine vs 2 ?_
 refine er ?_
 refine sc hM (λ zB hM => ?_) (λ zB hM => ?_)
 ·refine sg aT ?_
  refine vs 3 ?_
  refine er ?_
  obtain rfl := aa hM
  exact rt Tryz.func23 (.tmp rfl (.tmp rfl .nil)) (so (aH (so (so sr)))) (hk _ _ _ ⟨um, rfl, rfl⟩)
 refine sp ?_
 refine sg cB ?_
 refine lN [_, _, _, _, _, _, _, _] 0 8 ej z0 ?_
 refine At.s rfl rfl (Ox.makeFunc (vs := #[]) (us := #[_, _]) rfl rfl rfl rfl (.put rfl) ?_)
 refine At.EM (H2 := (ia, _) :: (g9, _) :: (j8, _) :: H) (λ X => (ia, _) :: X ++ ((g9, _) :: (j8, _) :: H)) (.cons .id) rfl Gb (λ V2 lE B9 => ?_)
 replace h1 := h1.mono lE
 replace sj := sj.mono lE
 replace sv := sv.mono lE
 replace sw := sw.mono lE
 replace sx := sx.mono lE
 obtain ⟨eE, ot, hM⟩ := aj hM
 refine At.cv XA (aaK dW.1 (λ y => Cp y dW.1 x1) sj sv sw sx B9 ⟨101, #[], #[_, _], rfl, agx, λ R' H' hR hH y r va hA hr => by obtain ⟨_, rfl, ⟨Ac, rfl⟩⟩ := hA; exact (axu y dW.1 x1 Ac (aS.box (hH _ z0)) (sj.mono hR) (sv.mono hR) (sw.mono hR) (sx.mono hR) (B9.mono hR) (aS.box (hH _ z1)) (h1.mono hR) hr).mono λ _ _ _ ⟨h1, h2, h3⟩ => ⟨h1, h2.symm, h3⟩⟩ ot) ?_
 rintro _ ID _ ⟨mB, rfl, rfl⟩
 refine vs 2 ?_
 refine er ?_
 obtain rfl := aa hM
 exact rt Tryz.func23 (.tmp rfl (.tmp rfl .nil)) (so (so (so sr))) (hk _ _ _ ⟨((um.trans lE).trans mB), rfl, rfl⟩)
theorem xd (x0 : (List Int)) {v0 : Value} (h0 : bV CZ 1 R H v0 x0) {r : List Int} (hM : rE x0 = some r) : aB ah 125 #[v0] R H (λ v R' H' => aO R R' ∧ ∃ w Hs, bg CZ 1 3 R' w r Hs ∧ H' = Hs ++ H ∧ v = w) := by
 rcases h0.TH with ⟨Ex, rfl, rfl⟩ | ⟨a0, n0, Ex, rfl⟩
 ·have hM : some ([] : List Int) = some r := by simpa [rE, eH] using hM
  refine aB.bk Tryz.func125 rfl (n := 8) rfl rfl λ fr cs hk => ?_
  refine sg aQ ?_
  refine vs 1 ?_
  refine es ?_
  refine sg aR ?_
  refine vs 1 ?_
  refine At.s rfl rfl (Ox.BV rfl rfl rfl Tryz.underlying25 rfl rfl (.put rfl) ?_)
  refine er ?_
  refine At.cond_true rfl ?_
  refine sg aQ ?_
  refine vs 1 ?_
  refine er ?_
  obtain rfl := aa hM
  exact rt Tryz.func125 (.tmp rfl .nil) sr (hk _ _ _ ⟨(rr), .slice none 0 0, [], bg.nil, rfl, rfl⟩)
 ·unfold rE at hM
  refine aB.bk Tryz.func125 rfl (n := 8) rfl rfl λ fr cs hk => ?_
  refine sg aQ ?_
  refine vs 1 ?_
  refine es ?_
  refine sg aR ?_
  refine vs 1 ?_
  refine At.s rfl rfl (Ox.BV rfl rfl rfl Tryz.underlying25 rfl rfl (.put rfl) ?_)
  refine er ?_
  refine At.cond_false rfl ?_
  refine sp ?_
  refine sg bw ?_
  refine At.s rfl rfl (Ox.buildSlice (cells := #[]) rfl cW rfl (by decide) M9 bD rfl λ cq _ _ => ⟨_, (.put rfl), ?_⟩)
  refine vs 1 ?_
  obtain ⟨cy, eN, hM⟩ := aj hM
  refine At.s rfl rfl (Ox.append (K := CZ) (λ X => X ++ (H)) rfl rfl rfl iZ Tryz.underlying25 (by simp) .id (bg.lit (aK.le aK.nil rfl) rfl) (h0.sub (su (so sr))).arg eN rfl λ Hu Ec Fh => ⟨_, (.put rfl), ?_⟩)
  refine vs 1 ?_
  refine er ?_
  obtain rfl := aa hM
  exact rt Tryz.func125 (.tmp rfl .nil) sr (hk _ _ _ ⟨(rr), Hu, Ec, Fh, rfl, rfl⟩)
end
end Go.Proofs.YtabamagholjdcaaGreatDoor
