/- Walks, part 5: each function computes its model. -/
import Derived.Test.YtabamagholjdcaaGreatDoorQAHuP4
namespace Go.Proofs.YtabamagholjdcaaGreatDoor
open Go.Lg Go.Proofs
set_option maxRecDepth 100000
set_option maxHeartbeats 4000000
section
variable {B : Base} {main : Bool} {ag : Jd Tryz.prog B main} {R : aI} {H : au}
theorem K8 (x0 : aq) {aC aD aH : Value} (ay : aj bm 5 R aC x0.az) (aB : aj CZ 1 R aD x0.Out) (aF : aj bh 2 R aH x0.aO) {r : (List cB)} (hM : AF x0 = some r) : aJ ag 114 #[.agg #[iv x0.aE, iv x0.aa.an, iv x0.aa.ax, aC, aD, aH]] R H (λ v R' H' => aN R R' ∧ H = H' ∧ ∃ bU, aj oY 2 R' bU r ∧ v = bU) := by
 unfold AF at hM
 refine aJ.aX Tryz.func114 rfl (n := 87) rfl rfl λ fr cs hk => ?_
 refine sg aQ ?_
 refine bx λ gK => ?_
 refine vs 1 ?_
 refine nx aQ ?_
 refine At.s rfl rfl (Ox.buildSlice (cells := #[_]) rfl si rfl (by decide) r9 (bf rfl rfl rfl rfl aY) rfl λ XX _ _ => ⟨_, (.put rfl), ?_⟩)
 refine vs 1 ?_
 refine es ?_
 refine sg aL ?_
 refine vs 1 ?_
 refine er ?_
 refine At.block ?_
 refine At.c8 hM (λ (mP : ((List (List Int)) × Int)) R' H' st' => aN R R' ∧ ∃ A8 o3, aZ (ef CZ 1) 1 25 R' A8 mP.1 o3 ∧ H' = o3 ++ ((gK, .cells #[iv x0.aE, iv x0.aa.an, iv x0.aa.ax, aC, aD, aH] 28) :: H) ∧ aK st' [(1, .pointer (some ⟨gK, 0, none⟩)), (3, A8), (4, iv mP.2)]) (λ (HH : (List (List Int))) R' H' st' => aN R R' ∧ ∃ Dq yW, aZ (ef CZ 1) 1 25 R' Dq HH yW ∧ H' = yW ++ ((gK, .cells #[iv x0.aE, iv x0.aa.an, iv x0.aa.ax, aC, aD, aH] 28) :: H) ∧ aK st' [(1, .pointer (some ⟨gK, 0, none⟩)), (3, Dq)]) 0 rfl ⟨rr, .slice (some ⟨XX, 0, none⟩) 1 1, [(XX, _)], (aZ.lit (aG.le (aG.cons (x := []) ⟨_, rfl, aj.nil⟩ rfl aG.nil) rfl) rfl), rfl, aA.sub ⟨rfl, rfl, rfl, trivial⟩⟩ ?_ ?_
 rotate_right
 ·rintro mP W5 aE2 aOE ⟨Qe, A8, o3, zO, rfl, aqI⟩ aRl hM ahd ajB
  refine At.sub aqI ?_
  replace ay := ay.mono Qe
  refine sq ?_
  refine sg bT ?_
  refine vs 2 ?_
  refine ld 3 cK (List.mem_append_right _ z0) ?_
  refine ls ay Tryz.underlying24 ?_
  refine vs 1 ?_
  refine er ?_
  refine sc hM (λ asy hM => ?_) (λ asy hM => ?_)
  ·refine sp ?_
   refine sq ?_
   refine At.block ?_
   refine sg aL ?_
   refine vs 1 ?_
   refine es ?_
   refine sg aL ?_
   refine vs 1 ?_
   refine er ?_
   refine At.block ?_
   refine At.c8 hM (λ (rj : ((List (List Int)) × Int)) R' H' st' => aN W5 R' ∧ ∃ H8 EE, aZ (ef CZ 1) 1 25 R' H8 rj.1 EE ∧ H' = EE ++ (o3 ++ ((gK, .cells #[iv x0.aE, iv x0.aa.an, iv x0.aa.ax, aC, aD, aH] 28) :: H)) ∧ aK st' [(1, .pointer (some ⟨gK, 0, none⟩)), (3, A8), (4, iv mP.2), (5, H8), (6, iv rj.2)]) (λ (LU : (List (List Int))) R' H' st' => aN W5 R' ∧ ∃ MB I2, aZ (ef CZ 1) 1 25 R' MB LU I2 ∧ H' = I2 ++ ((gK, .cells #[iv x0.aE, iv x0.aa.an, iv x0.aa.ax, aC, aD, aH] 28) :: H) ∧ aK st' [(1, .pointer (some ⟨gK, 0, none⟩)), (4, iv mP.2), (5, MB)]) 2 rfl ⟨rr, .slice none 0 0, [], aZ.nil, rfl, aA.sub ⟨rfl, rfl, rfl, rfl, rfl, trivial⟩⟩ ?_ ?_
   rotate_right
   ·rintro rj Xb aFg aO3 ⟨Kh, H8, EE, Z2, rfl, aq7⟩ aRm hM ahh ajM
    refine At.sub aq7 ?_
    replace ay := ay.mono Kh
    replace zO := zO.mono Kh
    refine sq ?_
    refine sg bn ?_
    refine vs 2 ?_
    refine At.s rfl rfl (Ox.u0 rfl rfl zO Tryz.underlying135 rfl (.put rfl) ?_)
    refine vs 1 ?_
    refine er ?_
    refine sc hM (λ asC hM => ?_) (λ asC hM => ?_)
    ·refine sp ?_
     refine sq ?_
     refine At.block ?_
     refine sg eC ?_
     refine vs 1 ?_
     refine At.ld cK ((aT.box (List.mem_append_right _ (List.mem_append_right _ z0))).one (j := 3) rfl) ?_
     refine vs 1 ?_
     obtain ⟨adM, avr, hM⟩ := ao hM
     obtain ⟨aKl, aNh, _, ⟨aQU, aLS, rfl⟩, amd, an5⟩ := ay.elem gN avr
     refine At.s rfl rfl (Ox.bq rfl rfl rfl an5 rfl (.put rfl) ?_)
     refine vs 2 ?_
     refine At.ld bg (amd.any.one (j := 2) rfl) ?_
     refine vs 1 ?_
     refine er ?_
     refine At.block ?_
     refine At.c8 hM (λ (tf : ((List (List Int)) × Int)) R' H' st' => aN Xb R' ∧ ∃ ME wA, aZ (ef CZ 1) 1 25 R' ME tf.1 wA ∧ H' = wA ++ (o3 ++ ((gK, .cells #[iv x0.aE, iv x0.aa.an, iv x0.aa.ax, aC, aD, aH] 28) :: H)) ∧ aK st' [(1, .pointer (some ⟨gK, 0, none⟩)), (3, A8), (4, iv mP.2), (5, ME), (6, iv rj.2), (7, iv tf.2)]) (λ (LX : (List (List Int))) R' H' st' => aN Xb R' ∧ ∃ MD I4, aZ (ef CZ 1) 1 25 R' MD LX I4 ∧ H' = I4 ++ (o3 ++ ((gK, .cells #[iv x0.aE, iv x0.aa.an, iv x0.aa.ax, aC, aD, aH] 28) :: H)) ∧ aK st' [(1, .pointer (some ⟨gK, 0, none⟩)), (3, A8), (4, iv mP.2), (5, MD), (6, iv rj.2)]) 4 rfl ⟨rr, H8, EE, Z2, rfl, aA.sub ⟨rfl, rfl, rfl, rfl, rfl, rfl, trivial⟩⟩ ?_ ?_
     rotate_right
     ·rintro tf aHa aFl aO9 ⟨Ki, ME, wA, KE, rfl, ard⟩ aRo hM ahk ajO
      refine At.sub ard ?_
      replace ay := ay.mono Ki
      replace zO := zO.mono Ki
      refine sq ?_
      refine sg gd ?_
      refine vs 2 ?_
      refine At.ld cK ((aT.box (List.mem_append_right _ (List.mem_append_right _ z0))).one (j := 3) rfl) ?_
      refine vs 1 ?_
      obtain ⟨Is, TD, hM⟩ := ao hM
      obtain ⟨aKo, aNk, _, ⟨aQW, aLV, rfl⟩, amg, an8⟩ := ay.elem gN TD
      refine At.s rfl rfl (Ox.bq rfl rfl rfl an8 rfl (.put rfl) ?_)
      refine vs 2 ?_
      refine At.ld bg (amg.any.one (j := 3) rfl) ?_
      refine vs 1 ?_
      refine er ?_
      refine sc hM (λ asE hM => ?_) (λ asE hM => ?_)
      ·refine sp ?_
       refine sq ?_
       refine At.block ?_
       refine At.rg BL ?_
       refine vs 1 ?_
       refine At.s rfl rfl (Ox.buildSlice (cells := #[]) rfl ck rfl (by decide) p7 aY rfl λ aJd _ _ => ⟨_, (.put rfl), ?_⟩)
       refine vs 2 ?_
       obtain ⟨adO, avw, hM⟩ := ao hM
       obtain ⟨adP, avy, hM⟩ := ao hM
       obtain ⟨Vu, avz, hM⟩ := ao hM
       obtain ⟨adQ, avA, hM⟩ := ao hM
       obtain ⟨aKq, aNm, _, ⟨aQZ, rfl, avx⟩, QS, aoa⟩ := (zO.rd (λ _ h => (.tail _ (List.mem_append_right _ (List.mem_append_left _ h))))).elem jL avw
       refine At.s rfl rfl (Ox.bq rfl rfl rfl aoa rfl (.put rfl) ?_)
       refine At.ld bL ((QS.sub pp).one (j := 0) rfl) ?_
       refine At.s rfl rfl (Ox.append (K := CZ) (λ X => X ++ (wA ++ (o3 ++ ((gK, _) :: H)))) rfl rfl rfl cR Tryz.underlying25 (by simp) .id (aZ.lit (aG.le aG.nil rfl) rfl) avx.arg avy rfl λ aQ0 aF1 apq => ⟨_, (.put rfl), ?_⟩)
       refine vs 1 ?_
       refine At.s rfl rfl (Ox.buildSlice (cells := #[_]) rfl ck rfl (by decide) cS (bf rfl rfl rfl rfl aY) rfl λ JA _ _ => ⟨_, (.put rfl), ?_⟩)
       refine At.s rfl rfl (Ox.append (K := CZ) (λ X => (JA, _) :: X ++ (wA ++ (o3 ++ ((gK, _) :: H)))) rfl rfl rfl cR Tryz.underlying25 (by simp) (.cons .id) apq (cE.lit z0 (aG.le (aG.cons (x := tf.2) rfl rfl aG.nil) rfl) rfl) avz rfl λ aQ1 aF2 aad => ⟨_, (.put rfl), ?_⟩)
       refine At.dB (H2 := (JA, _) :: wA ++ (o3 ++ ((gK, _) :: H))) (λ X => (JA, _) :: X ++ (wA ++ (o3 ++ ((gK, _) :: H)))) (.cons .id) rfl aad (λ aH2 Qm amR => ?_)
       replace QS := QS.le Qm
       replace KE := KE.mono Qm
       refine At.s rfl rfl (Ox.buildSlice (cells := #[_]) rfl si rfl (by decide) r9 (bf rfl aad.cells rfl rfl aY) rfl λ ahF _ _ => ⟨_, (.put rfl), ?_⟩)
       refine At.s rfl rfl (Ox.append (K := (ef CZ 1)) (λ X => (ahF, _) :: (JA, _) :: X ++ (o3 ++ ((gK, _) :: H))) rfl rfl rfl zd Tryz.underlying135 (by simp) (.cons (.cons .id)) KE (cE.lit z0 (aG.le (aG.cons (x := Vu) ⟨_, rfl, amR⟩ rfl aG.nil) rfl) rfl) avA rfl λ aBs agq aps => ⟨_, (.put rfl), ?_⟩)
       refine vs 1 ?_
       refine er ?_
       refine At.inBlock ?_
       refine At.rg aS ?_
       refine vs 3 ?_
       refine er ?_
       exact At.drop (so (so sr)) (ahk _ (af hM).symm _ _ _ ⟨(Ki.trans Qm), aBs, agq, aps, rfl, aA.sub ⟨rfl, rfl, rfl, rfl, rfl, rfl, trivial⟩⟩)
      exact At.exit rfl (ajO _ (af hM).symm _ _ _ ⟨Ki, ME, wA, KE, rfl, aA.sub ⟨rfl, rfl, rfl, rfl, rfl, trivial⟩⟩)
     rintro LX aHb aFm aPa ⟨akN, MD, I4, aoX, rfl, are⟩ hM
     refine At.sub are ?_
     refine At.inBlock ?_
     refine At.rg aS ?_
     refine vs 3 ?_
     refine er ?_
     exact ahh _ (af hM).symm _ _ _ ⟨(Kh.trans akN), MD, I4, aoX, rfl, aA.sub ⟨rfl, rfl, rfl, rfl, rfl, trivial⟩⟩
    exact At.exit rfl (At.drop (eD (aP sr)) (ajM _ (af hM).symm _ _ _ ⟨Kh, H8, EE, Z2, rfl, aA.sub ⟨rfl, rfl, rfl, trivial⟩⟩))
   rintro LU aG6 aFh aO4 ⟨akL, MB, I2, aoV, rfl, aq8⟩ hM
   refine At.sub aq8 ?_
   refine At.rg aQ ?_
   refine vs 2 ?_
   refine er ?_
   refine At.inBlock ?_
   refine At.rg aS ?_
   refine vs 3 ?_
   refine er ?_
   exact ahd _ (af hM).symm _ _ _ ⟨(Qe.trans akL), MB, I2, aoV, rfl, aA.sub ⟨rfl, rfl, rfl, trivial⟩⟩
  exact At.exit rfl (ajB _ (af hM).symm _ _ _ ⟨Qe, A8, o3, zO, rfl, aA.sub ⟨rfl, rfl, trivial⟩⟩)
 rintro HH Jj aE3 aOF ⟨Kg, Dq, yW, Z1, rfl, aqJ⟩ hM
 refine At.sub aqJ ?_
 replace ay := ay.mono Kg
 replace aB := aB.mono Kg
 replace aF := aF.mono Kg
 refine sg aL ?_
 refine vs 1 ?_
 refine es ?_
 refine sg bn ?_
 refine vs 2 ?_
 refine ld 1 bg (List.mem_append_right _ z0) ?_
 refine vs 1 ?_
 refine er ?_
 refine At.block ?_
 refine At.c8 hM (λ (nI : ((List cB) × Int)) R' H' st' => Jj = R' ∧ ∃ Ia EF, aZ oY 2 66 R' Ia nI.1 EF ∧ H' = EF ++ (yW ++ ((gK, .cells #[iv x0.aE, iv x0.aa.an, iv x0.aa.ax, aC, aD, aH] 28) :: H)) ∧ aK st' [(1, .pointer (some ⟨gK, 0, none⟩)), (3, Dq), (8, Ia), (9, iv nI.2)]) (λ (LZ : (List cB)) R' H' st' => Jj = R' ∧ ∃ MH Ou, aZ oY 2 66 R' MH LZ Ou ∧ H' = Ou ++ (H) ∧ aK st' [(8, MH)]) 6 rfl ⟨rfl, .slice none 0 0, [], aZ.nil, rfl, aA.sub ⟨rfl, rfl, rfl, rfl, trivial⟩⟩ ?_ ?_
 rotate_right
 ·rintro nI aHd aFp aPd ⟨rfl, Ia, EF, Z4, rfl, ari⟩ aRq hM ahm ajQ
  refine At.sub ari ?_
  refine sq ?_
  refine sg bT ?_
  refine vs 3 ?_
  refine At.ld bg ((aT.box (List.mem_append_right _ (List.mem_append_right _ z0))).one (j := 2) rfl) ?_
  refine vs 1 ?_
  refine er ?_
  refine sc hM (λ asI hM => ?_) (λ asI hM => ?_)
  ·refine sp ?_
   refine sq ?_
   refine At.block ?_
   refine sg aL ?_
   refine vs 1 ?_
   refine er ?_
   refine At.block ?_
   refine At.c8 hM (λ (rm : ((List cB) × Int)) R' H' st' => Jj = R' ∧ ∃ Ib EG, aZ oY 2 66 R' Ib rm.1 EG ∧ H' = EG ++ (yW ++ ((gK, .cells #[iv x0.aE, iv x0.aa.an, iv x0.aa.ax, aC, aD, aH] 28) :: H)) ∧ aK st' [(1, .pointer (some ⟨gK, 0, none⟩)), (3, Dq), (8, Ib), (9, iv nI.2), (10, iv rm.2)]) (λ (L0 : (List cB)) R' H' st' => Jj = R' ∧ ∃ MI I6, aZ oY 2 66 R' MI L0 I6 ∧ H' = I6 ++ (yW ++ ((gK, .cells #[iv x0.aE, iv x0.aa.an, iv x0.aa.ax, aC, aD, aH] 28) :: H)) ∧ aK st' [(1, .pointer (some ⟨gK, 0, none⟩)), (3, Dq), (8, MI), (9, iv nI.2)]) 8 rfl ⟨rfl, Ia, EF, Z4, rfl, aA.sub ⟨rfl, rfl, rfl, rfl, rfl, trivial⟩⟩ ?_ ?_
   rotate_right
   ·rintro rm aHg aFs aPh ⟨rfl, Ib, EG, Rs, rfl, arn⟩ aRr hM XN ajS
    refine At.sub arn ?_
    refine sq ?_
    refine sg bn ?_
    refine vs 2 ?_
    refine At.s rfl rfl (Ox.u0 rfl rfl Z1 Tryz.underlying135 rfl (.put rfl) ?_)
    refine vs 1 ?_
    refine er ?_
    refine sc hM (λ asJ hM => ?_) (λ asJ hM => ?_)
    ·refine sp ?_
     refine sq ?_
     refine At.block ?_
     refine sg eC ?_
     refine vs 3 ?_
     obtain ⟨Iv, avH, hM⟩ := ao hM
     obtain ⟨aKw, aNs, _, ⟨aQ6, rfl, KW⟩, amk, aog⟩ := (Z1.rd (λ _ h => (List.mem_append_right _ (List.mem_append_left _ h)))).elem jL avH
     refine At.s rfl rfl (Ox.bq rfl rfl rfl aog rfl (.put rfl) ?_)
     refine At.ld bL ((amk.sub pp).one (j := 0) rfl) ?_
     refine At.s rfl rfl (Ox.build (cells := #[_, _]) rfl Wr rfl (bf rfl rfl rfl rfl (bf rfl KW.cells rfl rfl aY)) rfl (.put rfl) ?_)
     refine At.s rfl rfl (Ox.alloc (cs := #[iv 0, .slice none 0 0]) rfl afP rfl λ ahH _ _ => ⟨_, (.put rfl), ?_⟩)
     refine At.s rfl rfl (Ox.bp (cs' := #[_, _]) rfl rfl rfl rP rfl (ak rfl (ak KW.one aW)) .here rfl rfl rfl (.refl _) ?_)
     refine nx aS ?_
     refine At.s rfl rfl (Ox.bP (vs := [_, _, _, _, _, _]) rfl rfl aU rfl ((aT.box (.tail _ (List.mem_append_right _ (List.mem_append_right _ z0)))).part (j := 0) (n := 6) rfl) rfl (.put rfl) ?_)
     refine lN [_, _] 0 2 rP z0 ?_
     obtain ⟨adT, avI, hM⟩ := ao hM
     refine At.cv aiq (awY x0 (⟨nI.2, Iv⟩ : cB) ay aB aF KW avI) ?_
     rintro _ _ _ ⟨rfl, rfl, rfl⟩
     refine er ?_
     refine sc hM (λ asK hM => ?_) (λ asK hM => ?_)
     ·refine At.rg bT ?_
      refine vs 1 ?_
      refine lN [_, _] 0 2 rP z0 ?_
      refine At.s rfl rfl (Ox.buildSlice (cells := #[_, _]) rfl ah8 rfl (by decide) ahK (bf rfl rfl rfl rfl aY) rfl λ ahI _ _ => ⟨_, (.put rfl), ?_⟩)
      obtain ⟨adU, avJ, hM⟩ := ao hM
      refine At.s rfl rfl (Ox.append (K := oY) (λ X => (ahI, _) :: (ahH, _) :: X ++ (yW ++ ((gK, _) :: H))) rfl rfl rfl ahw Tryz.underlying115 (by simp) (.cons (.cons .id)) Rs (cE.lit z0 (aG.le (aG.cons (x := (⟨nI.2, Iv⟩ : cB)) ⟨_, KW, rfl⟩ rfl aG.nil) rfl) rfl) avJ rfl λ aBu ags apu => ⟨_, (.put rfl), ?_⟩)
      refine vs 1 ?_
      refine er ?_
      refine At.inBlock ?_
      refine At.rg aS ?_
      refine vs 3 ?_
      refine er ?_
      exact At.drop (so (so sr)) (XN _ (af hM).symm _ _ _ ⟨rfl, aBu, ags, apu, rfl, aA.sub ⟨rfl, rfl, rfl, rfl, rfl, trivial⟩⟩)
     refine sp ?_
     refine At.inBlock ?_
     refine At.rg aS ?_
     refine vs 3 ?_
     refine er ?_
     exact At.drop (so sr) (XN _ (af hM).symm _ _ _ ⟨rfl, Ib, EG, Rs, rfl, aA.sub ⟨rfl, rfl, rfl, rfl, rfl, trivial⟩⟩)
    exact At.exit rfl (ajS _ (af hM).symm _ _ _ ⟨rfl, Ib, EG, Rs, rfl, aA.sub ⟨rfl, rfl, rfl, rfl, trivial⟩⟩)
   rintro L0 aHh aFt aPi ⟨rfl, MI, I6, ao0, rfl, aro⟩ hM
   refine At.sub aro ?_
   refine At.inBlock ?_
   refine At.rg aS ?_
   refine vs 3 ?_
   refine er ?_
   exact ahm _ (af hM).symm _ _ _ ⟨rfl, MI, I6, ao0, rfl, aA.sub ⟨rfl, rfl, rfl, rfl, trivial⟩⟩
  exact At.exit rfl (At.drop (eD (aP (so sr))) (ajQ _ (af hM).symm _ _ _ ⟨rfl, Ia, EF, Z4, rfl, aA.sub ⟨rfl, trivial⟩⟩))
 rintro LZ aHe aFq aPe ⟨rfl, MH, Ou, aoZ, rfl, arj⟩ hM
 refine At.sub arj ?_
 refine sg aQ ?_
 refine vs 2 ?_
 refine er ?_
 refine At.dB (H2 := H) (λ X => X ++ (H)) .id rfl aoZ (λ aH6 ak5 amV => ?_)
 obtain rfl := af hM
 exact rt Tryz.func114 (.tmp rfl .nil) sr (hk _ _ _ ⟨(Kg.trans ak5), rfl, MH, amV, rfl⟩)
theorem A0 (x0 : aq) (x1 : Int) {aC aD aH : Value} (ay : aj bm 5 R aC x0.az) (aB : aj CZ 1 R aD x0.Out) (aF : aj bh 2 R aH x0.aO) {r : ((List cB) × Int)} (hM : s4 x0 x1 = some r) : aJ ag 95 #[.agg #[iv x0.aE, iv x0.aa.an, iv x0.aa.ax, aC, aD, aH], iv x1] R H (λ v R' H' => aN R R' ∧ H = H' ∧ ∃ bU, aj oY 2 R' bU r.1 ∧ v = .tuple #[bU, iv r.2]) := by
 unfold s4 at hM
 refine aJ.aX Tryz.func95 rfl (n := 22) rfl rfl λ fr cs hk => ?_
 refine sg aS ?_
 refine bx λ gm => ?_
 refine vs 2 ?_
 refine es ?_
 refine sg aS ?_
 refine lN [_, _, _, _, _, _] 0 6 aU z0 ?_
 obtain ⟨eH, mE, hM⟩ := ao hM
 refine At.cv zn (AY x0 ay aB aF mE) ?_
 rintro _ _ _ ⟨rfl, rfl, rfl⟩
 refine vs 1 ?_
 refine nx aQ ?_
 refine vs 2 ?_
 refine er ?_
 refine sc hM (λ SN hM => ?_) (λ SN hM => ?_)
 ·refine sg aS ?_
  refine vs 3 ?_
  refine er ?_
  obtain rfl := af hM
  exact rt Tryz.func95 (.tmp rfl (.tmp rfl .nil)) (so sr) (hk _ _ _ ⟨(rr), rfl, .slice none 0 0, aj.nil, rfl⟩)
 refine sp ?_
 refine sq ?_
 refine sg aQ ?_
 refine vs 2 ?_
 refine er ?_
 refine sc hM (λ SQ hM => ?_) (λ SQ hM => ?_)
 ·refine sg aS ?_
  refine vs 3 ?_
  refine er ?_
  obtain rfl := af hM
  exact rt Tryz.func95 (.tmp rfl (.tmp rfl .nil)) (so sr) (hk _ _ _ ⟨(rr), rfl, .slice none 0 0, aj.nil, rfl⟩)
 refine sp ?_
 refine sg aS ?_
 refine lN [_, _, _, _, _, _] 0 6 aU z0 ?_
 obtain ⟨eI, uU, hM⟩ := ao hM
 refine At.cv JV (K8 x0 ay aB aF uU) ?_
 rintro aAR Jm _ ⟨iA, rfl, _, aaM, rfl⟩
 refine vs 1 ?_
 refine es ?_
 refine sg aS ?_
 refine vs 1 ?_
 refine ls aaM Tryz.underlying115 ?_
 refine vs 1 ?_
 refine er ?_
 refine sc hM (λ qB hM => ?_) (λ qB hM => ?_)
 ·refine sg aQ ?_
  refine vs 2 ?_
  refine er ?_
  obtain rfl := af hM
  exact rt Tryz.func95 (.tmp rfl (.tmp rfl .nil)) (so sr) (hk _ _ _ ⟨iA, rfl, .slice none 0 0, aj.nil, rfl⟩)
 refine sp ?_
 refine sg aS ?_
 refine vs 3 ?_
 refine er ?_
 obtain rfl := af hM
 exact rt Tryz.func95 (.tmp rfl (.tmp rfl .nil)) (so sr) (hk _ _ _ ⟨iA, rfl, aAR, aaM, rfl⟩)
theorem abI (x0 : aq) (x1 : (List Int)) {aC aD aH v1 : Value} (ay : aj bm 5 R aC x0.az) (aB : aj CZ 1 R aD x0.Out) (aF : aj bh 2 R aH x0.aO) (h1 : bC CZ 1 R H v1 x1) {r : (List Int)} (hM : IG x0 x1 = some r) : aJ ag 96 #[.agg #[iv x0.aE, iv x0.aa.an, iv x0.aa.ax, aC, aD, aH], v1] R H (λ v R' H' => aN R R' ∧ H = H' ∧ ∃ bU, aj CZ 1 R' bU r ∧ v = bU) := by
 unfold IG at hM
 refine aJ.aX Tryz.func96 rfl (n := 23) rfl rfl λ fr cs hk => ?_
 refine sg aQ ?_
 refine bx λ r6 => ?_
 refine vs 1 ?_
 refine nx aL ?_
 refine vs 1 ?_
 refine es ?_
 refine sg aL ?_
 refine vs 1 ?_
 refine er ?_
 refine At.block ?_
 refine At.c8 hM (λ (fZ : ((List Int) × Int)) R' H' st' => R = R' ∧ ∃ HU Ex, aZ CZ 1 3 R' HU fZ.1 Ex ∧ H' = Ex ++ ((r6, .cells #[iv x0.aE, iv x0.aa.an, iv x0.aa.ax, aC, aD, aH] 28) :: H) ∧ aK st' [(1, v1), (2, .pointer (some ⟨r6, 0, none⟩)), (5, HU), (6, iv fZ.2)]) (λ (pO : (List Int)) R' H' st' => R = R' ∧ ∃ pX Oe, aZ CZ 1 3 R' pX pO Oe ∧ H' = Oe ++ (H) ∧ aK st' [(5, pX)]) 0 rfl ⟨rfl, .slice none 0 0, [], aZ.nil, rfl, aA.sub ⟨rfl, rfl, rfl, rfl, trivial⟩⟩ ?_ ?_
 rotate_right
 ·rintro fZ OG WE azK ⟨rfl, HU, Ex, Rm, rfl, RN⟩ eO hM BU Fa
  refine At.sub RN ?_
  refine sq ?_
  refine sg bT ?_
  refine vs 2 ?_
  refine ld 3 cK (List.mem_append_right _ z0) ?_
  refine ls ay Tryz.underlying24 ?_
  refine vs 1 ?_
  refine er ?_
  refine sc hM (λ asv hM => ?_) (λ asv hM => ?_)
  ·refine sp ?_
   refine sq ?_
   refine At.block ?_
   refine sg bn ?_
   refine lN [_, _, _, _, _, _] 0 6 aU (List.mem_append_right _ z0) ?_
   refine vs 2 ?_
   obtain ⟨oR, sV, hM⟩ := ao hM
   refine At.cv YQ (abB x0 x1 fZ.2 ay aB aF (h1.sub (su (aP (so sr)))) sV) ?_
   rintro _ _ _ ⟨rfl, rfl, rfl⟩
   refine er ?_
   refine sc hM (λ Gq hM => ?_) (λ Gq hM => ?_)
   ·refine At.rg bT ?_
    refine vs 2 ?_
    refine At.s rfl rfl (Ox.buildSlice (cells := #[_]) rfl ck rfl (by decide) cS (bf rfl rfl rfl rfl aY) rfl λ iP _ _ => ⟨_, (.put rfl), ?_⟩)
    obtain ⟨iX, qJ, hM⟩ := ao hM
    refine At.s rfl rfl (Ox.append (K := CZ) (λ X => (iP, _) :: X ++ ((r6, _) :: H)) rfl rfl rfl cR Tryz.underlying25 (by simp) (.cons .id) Rm (cE.lit z0 (aG.le (aG.cons (x := fZ.2) rfl rfl aG.nil) rfl) rfl) qJ rfl λ aBc agl api => ⟨_, (.put rfl), ?_⟩)
    refine vs 1 ?_
    refine er ?_
    refine At.inBlock ?_
    refine At.rg aS ?_
    refine vs 3 ?_
    refine er ?_
    exact At.drop (so sr) (BU _ (af hM).symm _ _ _ ⟨rfl, aBc, agl, api, rfl, aA.sub ⟨rfl, rfl, rfl, rfl, trivial⟩⟩)
   refine sp ?_
   refine At.inBlock ?_
   refine At.rg aS ?_
   refine vs 3 ?_
   refine er ?_
   exact BU _ (af hM).symm _ _ _ ⟨rfl, HU, Ex, Rm, rfl, aA.sub ⟨rfl, rfl, rfl, rfl, trivial⟩⟩
  exact At.exit rfl (At.drop (eD (so sr)) (Fa _ (af hM).symm _ _ _ ⟨rfl, HU, Ex, Rm, rfl, aA.sub ⟨rfl, trivial⟩⟩))
 rintro pO W3 af0 azL ⟨rfl, pX, Oe, aoM, rfl, RO⟩ hM
 refine At.sub RO ?_
 refine sg aQ ?_
 refine vs 2 ?_
 refine er ?_
 refine At.dB (H2 := H) (λ X => X ++ (H)) .id rfl aoM (λ aHW akY amL => ?_)
 obtain rfl := af hM
 exact rt Tryz.func96 (.tmp rfl .nil) sr (hk _ _ _ ⟨akY, rfl, pX, amL, rfl⟩)
theorem abt (x0 : aq) (x1 : cB) (x2 : (List Int)) {aC aD aH iV v2 : Value} (ay : aj bm 5 R aC x0.az) (aB : aj CZ 1 R aD x0.Out) (aF : aj bh 2 R aH x0.aO) (k5 : aj CZ 1 R iV x1.fD) (h2 : bC CZ 1 R H v2 x2) {r : Int} (hM : IC x0 x1 x2 = some r) : aJ ag 106 #[.agg #[iv x0.aE, iv x0.aa.an, iv x0.aa.ax, aC, aD, aH], .agg #[iv x1.aa, iV], v2] R H (λ v R' H' => R = R' ∧ H = H' ∧ v = iv r) := by
 unfold IC at hM
 refine aJ.aX Tryz.func106 rfl (n := 33) rfl rfl λ fr cs hk => ?_
 refine sg aS ?_
 refine bx λ gS => ?_
 refine bx λ gp => ?_
 refine vs 1 ?_
 refine nx aL ?_
 refine vs 1 ?_
 refine es ?_
 refine sg aL ?_
 refine vs 1 ?_
 refine er ?_
 refine At.block ?_
 refine At.c8 hM (λ (jo : (Int × Int)) R' H' st' => R = R' ∧ H' = (gp, .cells #[iv x1.aa, iV] 66) :: (gS, .cells #[iv x0.aE, iv x0.aa.an, iv x0.aa.ax, aC, aD, aH] 28) :: H ∧ aK st' [(2, v2), (3, .pointer (some ⟨gS, 0, none⟩)), (4, .pointer (some ⟨gp, 0, none⟩)), (7, iv jo.1), (8, iv jo.2)]) (λ (vm : Int) R' H' st' => R = R' ∧ H = H' ∧ aK st' [(7, iv vm)]) 0 rfl ⟨rfl, rfl, aA.sub ⟨rfl, rfl, rfl, rfl, rfl, trivial⟩⟩ ?_ ?_
 rotate_right
 ·rintro jo R49 H49 azM ⟨rfl, rfl, RP⟩ ym hM OR PT
  refine At.sub RP ?_
  refine sq ?_
  refine sg bn ?_
  refine vs 2 ?_
  refine lr h2 Tryz.underlying25 ?_
  refine vs 1 ?_
  refine er ?_
  refine sc hM (λ Gs hM => ?_) (λ Gs hM => ?_)
  ·refine sp ?_
   refine sq ?_
   refine At.block ?_
   refine sq ?_
   refine At.dw oV mixed ?_
   refine tN 0 [_, _, _, _, _, _] 0 6 aU z1 ?_
   refine tN 1 [_, _] 0 2 rP z0 ?_
   refine Any.vs 1 [3] rfl ?_
   refine tl 4 4 bL z1 ?_
   refine Any.vs 2 [6, 7] rfl ?_
   obtain ⟨iJ, qL, hM⟩ := ao hM
   obtain ⟨nQ, As, hM⟩ := ao hM
   obtain ⟨gC, GO, hM⟩ := ao hM
   obtain ⟨j6, xA, hM⟩ := ao hM
   obtain ⟨aBi, avg, aon⟩ := h2.cut cL As
   refine Any.tk 8 rfl pp (λ R' H' hR hS => Ox.wM rfl rfl rfl rfl aon rfl (.one rfl) ⟨rfl, rfl, rfl⟩) ?_
   refine Any.on 2 rfl rfl (aR.to (Ox.buildSlice (cells := #[]) rfl ck rfl (by decide) p7 aY rfl λ Jz _ _ => ⟨_, (.put rfl), ⟨rr, (ku (so sr)), ?_⟩⟩))
   refine Any.on 5 rfl rfl (aR.to (Ox.append (K := CZ) (λ X => X ++ ((gp, _) :: (gS, _) :: H)) rfl rfl rfl cR Tryz.underlying25 (by simp) .id (aZ.lit (aG.le aG.nil rfl) rfl) aB.arg qL rfl λ MT I9 Cs => ⟨_, (.put rfl), ⟨rr, (ku (aP sr)), ?_⟩⟩))
   refine Any.on 9 rfl rfl (aR.to (Ox.append (K := CZ) (λ X => X ++ ((gp, _) :: (gS, _) :: H)) rfl rfl rfl cR Tryz.underlying25 (by simp) .id Cs (avg.sub (su (aP (so (so sr))))).arg GO rfl λ aQO aFY apk => ⟨_, (.put rfl), ⟨rr, (ku (aP sr)), ?_⟩⟩))
   refine Any.cv 10 PD (Uh x0 x1 gC ay aB aF k5 (apk.rd (λ _ h => (List.mem_append_left _ h))) xA) ?_
   rintro _ _ _ ⟨rfl, rfl, rfl⟩
   refine ⟨rr, (ku (aP sr)), ?_⟩
   refine Any.vs 1 [11] rfl ?_
   refine Any.done ?_
   refine At.rg dy ?_
   refine vs 3 ?_
   refine At.s rfl rfl (Ox.Lp rfl rfl rfl (.put rfl) ?_)
   refine At.s rfl rfl (Ox.max (a := jo.1) (l := [j6, i64 (0 - j6)]) rfl rfl rfl (.put rfl) ?_)
   refine vs 1 ?_
   refine er ?_
   refine At.inBlock ?_
   refine At.rg aS ?_
   refine vs 3 ?_
   refine er ?_
   exact At.drop (aP sr) (OR _ (af hM).symm _ _ _ ⟨rfl, rfl, aA.sub ⟨rfl, rfl, rfl, rfl, rfl, trivial⟩⟩)
  exact At.exit rfl (At.drop (so (so sr)) (PT _ (af hM).symm _ _ _ ⟨rfl, rfl, aA.sub ⟨rfl, trivial⟩⟩))
 rintro vm agB af2 azN ⟨rfl, rfl, RQ⟩ hM
 refine At.sub RQ ?_
 refine sg aQ ?_
 refine vs 2 ?_
 refine er ?_
 obtain rfl := af hM
 exact rt Tryz.func106 (.tmp rfl .nil) sr (hk _ _ _ ⟨rfl, rfl, rfl⟩)
theorem Lh (x0 : aq) (x1 : (List cB)) (x2 : (List Int)) {aC aD aH v1 v2 : Value} (ay : aj bm 5 R aC x0.az) (aB : aj CZ 1 R aD x0.Out) (aF : aj bh 2 R aH x0.aO) (h1 : bC oY 2 R H v1 x1) (h2 : bC CZ 1 R H v2 x2) {r : Int} (hM : BF x0 x1 x2 = some r) : aJ ag 97 #[.agg #[iv x0.aE, iv x0.aa.an, iv x0.aa.ax, aC, aD, aH], v1, v2] R H (λ v R' H' => R = R' ∧ H = H' ∧ v = iv r) := by
 unfold BF at hM
 refine aJ.aX Tryz.func97 rfl (n := 25) rfl rfl λ fr cs hk => ?_
 refine sg aQ ?_
 refine bx λ kY => ?_
 refine vs 1 ?_
 refine nx aL ?_
 refine vs 1 ?_
 refine es ?_
 refine sg aL ?_
 refine vs 1 ?_
 refine er ?_
 refine At.block ?_
 refine At.c8 hM (λ (ta : (Int × Int)) R' H' st' => R = R' ∧ H' = (kY, .cells #[iv x0.aE, iv x0.aa.an, iv x0.aa.ax, aC, aD, aH] 28) :: H ∧ aK st' [(1, v1), (2, v2), (3, .pointer (some ⟨kY, 0, none⟩)), (7, iv ta.1), (8, iv ta.2)]) (λ (LM : Int) R' H' st' => R = R' ∧ H = H' ∧ aK st' [(7, iv LM)]) 0 rfl ⟨rfl, rfl, aA.sub ⟨rfl, rfl, rfl, rfl, rfl, trivial⟩⟩ ?_ ?_
 rotate_right
 ·rintro ta R38 H38 aOs ⟨rfl, rfl, aqw⟩ eI hM aha ajw
  refine At.sub aqw ?_
  refine sq ?_
  refine sg bn ?_
  refine vs 2 ?_
  refine lr h1 Tryz.underlying115 ?_
  refine vs 1 ?_
  refine er ?_
  refine sc hM (λ uN hM => ?_) (λ uN hM => ?_)
  ·refine sp ?_
   refine sq ?_
   refine At.block ?_
   refine At.dw mM mixed ?_
   refine Any.vs 1 [0] rfl ?_
   refine tN 1 [_, _, _, _, _, _] 0 6 aU z0 ?_
   refine Any.vs 2 [2, 3] rfl ?_
   obtain ⟨gb, oE, hM⟩ := ao hM
   obtain ⟨ju, Ar, hM⟩ := ao hM
   obtain ⟨aJ2, aM1, _, ⟨aQz, au1, rfl⟩, alX, anO⟩ := h1.elem L8 oE
   refine Any.tk 4 rfl pp (λ R' H' hR hS => Ox.bq rfl rfl rfl anO rfl (.one rfl) ⟨rfl, rfl, rfl⟩) ?_
   refine Any.tk 5 rfl pp (λ R' H' hR hS => Ox.bP (vs := [_, _]) rfl rfl rP rfl (((alX.le hR).sub (λ p h => hS p ((su (so sr)) p h))).part (j := 0) (n := 2) rfl) rfl (.one rfl) ⟨rfl, rfl, rfl⟩) ?_
   refine Any.vs 1 [6] rfl ?_
   refine Any.cv 7 YI (abt x0 gb x2 ay aB aF au1 (h2.sub (su (so sr))) Ar) ?_
   rintro _ _ _ ⟨rfl, rfl, rfl⟩
   refine kp ?_
   refine Any.tk 8 rfl pp (λ R' H' hR hS => Ox.max (a := ta.1) (l := [ju]) rfl rfl rfl (.one rfl) ⟨rfl, rfl, rfl⟩) ?_
   refine Any.vs 1 [9] rfl ?_
   refine Any.done ?_
   refine At.inBlock ?_
   refine At.rg aS ?_
   refine vs 3 ?_
   refine er ?_
   exact aha _ (af hM).symm _ _ _ ⟨rfl, rfl, aA.sub ⟨rfl, rfl, rfl, rfl, rfl, trivial⟩⟩
  exact At.exit rfl (At.drop (so sr) (ajw _ (af hM).symm _ _ _ ⟨rfl, rfl, aA.sub ⟨rfl, trivial⟩⟩))
 rintro LM aGQ aEU aOt ⟨rfl, rfl, aqx⟩ hM
 refine At.sub aqx ?_
 refine sg aQ ?_
 refine vs 2 ?_
 refine er ?_
 obtain rfl := af hM
 exact rt Tryz.func97 (.tmp rfl .nil) sr (hk _ _ _ ⟨rfl, rfl, rfl⟩)
theorem aDD (x0 : aq) {aC aD aH : Value} (ay : aj bm 5 R aC x0.az) (aB : aj CZ 1 R aD x0.Out) (aF : aj bh 2 R aH x0.aO) {r : ((List Int) × Int)} (hM : Nz x0 = some r) : aJ ag 21 #[.agg #[iv x0.aE, iv x0.aa.an, iv x0.aa.ax, aC, aD, aH]] R H (λ v R' H' => aN R R' ∧ H = H' ∧ ∃ bU, aj CZ 1 R' bU r.1 ∧ v = .tuple #[bU, iv r.2]) := by
 unfold Nz at hM
 refine aJ.aX Tryz.func21 rfl (n := 46) rfl rfl λ fr cs hk => ?_
 refine sg aS ?_
 refine bx λ O0 => ?_
 refine vs 2 ?_
 refine nx dY ?_
 refine lN [_, _, _, _, _, _] 0 6 aU z0 ?_
 obtain ⟨dX, mG, hM⟩ := ao hM
 refine At.cv zo (A0 x0 0 ay aB aF mG) ?_
 rintro _ wF _ ⟨eA, rfl, Vc, uW, rfl⟩
 replace ay := ay.mono eA
 replace aB := aB.mono eA
 replace aF := aF.mono eA
 refine vs 5 ?_
 refine es ?_
 refine sg aQ ?_
 refine vs 2 ?_
 refine er ?_
 refine sc hM (λ Ag hM => ?_) (λ Ag hM => ?_)
 ·refine sg aS ?_
  refine vs 3 ?_
  refine er ?_
  obtain rfl := af hM
  exact rt Tryz.func21 (.tmp rfl (.tmp rfl .nil)) (so sr) (hk _ _ _ ⟨eA, rfl, .slice none 0 0, aj.nil, rfl⟩)
 refine sp ?_
 refine sg bT ?_
 refine lN [_, _, _, _, _, _] 0 6 aU z0 ?_
 refine vs 1 ?_
 refine ld 4 bL z0 ?_
 obtain ⟨eY, mH, hM⟩ := ao hM
 refine At.cv YX (abI x0 x0.Out ay aB aF aB.rd mH) ?_
 rintro aA5 Xo _ ⟨FC, rfl, _, Tz, rfl⟩
 replace ay := ay.mono FC
 replace aB := aB.mono FC
 replace aF := aF.mono FC
 replace uW := uW.mono FC
 refine vs 1 ?_
 refine nx aL ?_
 refine vs 1 ?_
 refine es ?_
 refine sg aL ?_
 refine vs 1 ?_
 refine er ?_
 refine At.block ?_
 refine At.c8 hM (λ (oL : ((List Int) × Int)) R' H' st' => Xo = R' ∧ ∃ H6 ED, aZ CZ 1 3 R' H6 oL.1 ED ∧ H' = ED ++ ((O0, .cells #[iv x0.aE, iv x0.aa.an, iv x0.aa.ax, aC, aD, aH] 28) :: H) ∧ aK st' [(1, .pointer (some ⟨O0, 0, none⟩)), (4, Vc), (6, aA5), (7, H6), (8, iv oL.2)]) (λ (LQ : (List Int)) R' H' st' => Xo = R' ∧ ∃ Mz Oo, aZ CZ 1 3 R' Mz LQ Oo ∧ H' = Oo ++ (H) ∧ aK st' [(7, Mz)]) 0 rfl ⟨rfl, .slice none 0 0, [], aZ.nil, rfl, aA.sub ⟨rfl, rfl, rfl, rfl, rfl, trivial⟩⟩ ?_ ?_
 rotate_right
 ·rintro oL R61 H61 aON ⟨rfl, H6, ED, Rq, rfl, aqR⟩ DU hM XJ ajF
  refine At.sub aqR ?_
  refine sq ?_
  refine sg bn ?_
  refine vs 2 ?_
  refine ls Tz Tryz.underlying25 ?_
  refine vs 1 ?_
  refine er ?_
  refine sc hM (λ SX hM => ?_) (λ SX hM => ?_)
  ·refine sp ?_
   refine sq ?_
   refine At.block ?_
   refine sq ?_
   refine At.dw yO mixed ?_
   refine tN 0 [_, _, _, _, _, _] 0 6 aU (List.mem_append_right _ z0) ?_
   refine Any.vs 5 [1, 2, 3, 4, 5] rfl ?_
   obtain ⟨Vr, avp, hM⟩ := ao hM
   obtain ⟨Ir, TC, hM⟩ := ao hM
   obtain ⟨aQT, avq, aoo⟩ := Tz.cut cL avp
   refine Any.tk 6 rfl pp (λ R' H' hR hS => Ox.wM rfl rfl rfl rfl aoo rfl (.one rfl) ⟨rfl, rfl, rfl⟩) ?_
   refine Any.vs 1 [8] rfl ?_
   refine tl 9 0 bg (List.mem_append_right _ z0) ?_
   refine Any.cv 7 J1 (Lh x0 dX.1 Vr ay aB aF uW.rd avq.rd TC) ?_
   rintro _ _ _ ⟨rfl, rfl, rfl⟩
   refine kp ?_
   refine Any.vs 1 [10] rfl ?_
   refine Any.done ?_
   refine sc hM (λ Ed hM => ?_) (λ Ed hM => ?_)
   ·refine At.rg eC ?_
    refine vs 3 ?_
    obtain ⟨mV, CA, hM⟩ := ao hM
    obtain ⟨D8, aeO, hM⟩ := ao hM
    obtain ⟨aKn, aNj, _, rfl, amf, an7⟩ := Tz.elem cL CA
    refine At.s rfl rfl (Ox.bq rfl rfl rfl an7 rfl (.put rfl) ?_)
    refine At.ld bg (amf.any.one (j := 0) rfl) ?_
    refine At.s rfl rfl (Ox.buildSlice (cells := #[_]) rfl ck rfl (by decide) cS (bf rfl rfl rfl rfl aY) rfl λ B0 _ _ => ⟨_, (.put rfl), ?_⟩)
    refine At.s rfl rfl (Ox.append (K := CZ) (λ X => (B0, _) :: X ++ ((O0, _) :: H)) rfl rfl rfl cR Tryz.underlying25 (by simp) (.cons .id) Rq (cE.lit z0 (aG.le (aG.cons (x := mV) rfl rfl aG.nil) rfl) rfl) aeO rfl λ aBr agp apr => ⟨_, (.put rfl), ?_⟩)
    refine vs 1 ?_
    refine er ?_
    refine At.inBlock ?_
    refine At.rg aS ?_
    refine vs 3 ?_
    refine er ?_
    exact At.drop (so sr) (XJ _ (af hM).symm _ _ _ ⟨rfl, aBr, agp, apr, rfl, aA.sub ⟨rfl, rfl, rfl, rfl, rfl, trivial⟩⟩)
   refine sp ?_
   refine At.inBlock ?_
   refine At.rg aS ?_
   refine vs 3 ?_
   refine er ?_
   exact XJ _ (af hM).symm _ _ _ ⟨rfl, H6, ED, Rq, rfl, aA.sub ⟨rfl, rfl, rfl, rfl, rfl, trivial⟩⟩
  exact At.exit rfl (At.drop (eD (so sr)) (ajF _ (af hM).symm _ _ _ ⟨rfl, H6, ED, Rq, rfl, aA.sub ⟨rfl, trivial⟩⟩))
 rintro LQ aGZ aE8 aOO ⟨rfl, Mz, Oo, aoT, rfl, aqS⟩ hM
 refine At.sub aqS ?_
 refine sg aS ?_
 refine vs 3 ?_
 refine er ?_
 refine At.dB (H2 := H) (λ X => X ++ (H)) .id rfl aoT (λ aH3 ak3 amS => ?_)
 obtain rfl := af hM
 exact rt Tryz.func21 (.tmp rfl (.tmp rfl .nil)) sr (hk _ _ _ ⟨((eA.trans FC).trans ak3), rfl, Mz, amS, rfl⟩)
theorem awK (x0 : aq) (x1 : (List Int)) {aC aD aH v1 : Value} (ay : aj bm 5 R aC x0.az) (aB : aj CZ 1 R aD x0.Out) (aF : aj bh 2 R aH x0.aO) (h1 : bC CZ 1 R H v1 x1) {r : Int} (hM : Nv x0 x1 = some r) : aJ ag 105 #[.agg #[iv x0.aE, iv x0.aa.an, iv x0.aa.ax, aC, aD, aH], v1] R H (λ v R' H' => R = R' ∧ H = H' ∧ v = iv r) := by
 unfold Nv at hM
 refine aJ.aX Tryz.func105 rfl (n := 24) rfl rfl λ fr cs hk => ?_
 refine sg aQ ?_
 refine bx λ b26 => ?_
 refine vs 1 ?_
 refine es ?_
 refine sg dy ?_
 refine lN [_, _, _, _, _, _] 0 6 aU z0 ?_
 refine vs 1 ?_
 refine ld 4 bL z0 ?_
 refine vs 1 ?_
 obtain ⟨jO, uR, hM⟩ := ao hM
 refine At.cv PA (Ue x0 x0.Out x1 ay aB aF aB.rd (h1.sub (su (so sr))) uR) ?_
 rintro _ _ _ ⟨rfl, rfl, rfl⟩
 refine vs 1 ?_
 refine nx aQ ?_
 refine vs 2 ?_
 refine er ?_
 refine sc hM (λ asf hM => ?_) (λ asf hM => ?_)
 ·refine sg aQ ?_
  refine vs 2 ?_
  refine er ?_
  obtain rfl := af hM
  exact rt Tryz.func105 (.tmp rfl .nil) (so sr) (hk _ _ _ ⟨rfl, rfl, rfl⟩)
 refine sp ?_
 refine sq ?_
 refine sg mM ?_
 refine vs 1 ?_
 refine ld 4 bL z0 ?_
 refine ls aB Tryz.underlying25 ?_
 refine vs 1 ?_
 refine lr h1 Tryz.underlying25 ?_
 refine vs 2 ?_
 refine ld 3 cK z0 ?_
 refine ls ay Tryz.underlying24 ?_
 refine vs 1 ?_
 refine er ?_
 refine sc hM (λ uK hM => ?_) (λ uK hM => ?_)
 ·refine sg aL ?_
  refine vs 1 ?_
  refine er ?_
  obtain rfl := af hM
  exact rt Tryz.func105 (.tmp rfl .nil) (so sr) (hk _ _ _ ⟨rfl, rfl, rfl⟩)
 refine sp ?_
 refine sg aL ?_
 refine vs 1 ?_
 refine er ?_
 obtain rfl := af hM
 exact rt Tryz.func105 (.tmp rfl .nil) (so sr) (hk _ _ _ ⟨rfl, rfl, rfl⟩)
theorem awL (x0 : Int) (x1 : Int)  {r : Int} (hM : Nw x0 x1 = some r) : aJ ag 107 #[iv x0, iv x1] R H (λ v R' H' => R = R' ∧ H = H' ∧ v = iv r) := by
 unfold Nw at hM
 refine aJ.aX Tryz.func107 rfl (n := 10) rfl rfl λ fr cs hk => ?_
 refine sg aL ?_
 refine vs 1 ?_
 refine es ?_
 refine sg aQ ?_
 refine vs 2 ?_
 refine er ?_
 refine sc hM (λ kE hM => ?_) (λ kE hM => ?_)
 ·refine sg aL ?_
  refine vs 1 ?_
  refine er ?_
  obtain rfl := af hM
  exact rt Tryz.func107 (.tmp rfl .nil) sr (hk _ _ _ ⟨rfl, rfl, rfl⟩)
 refine sp ?_
 refine sq ?_
 refine sg aS ?_
 refine vs 3 ?_
 refine er ?_
 refine sc hM (λ kF hM => ?_) (λ kF hM => ?_)
 ·refine sg aL ?_
  refine vs 1 ?_
  refine er ?_
  obtain rfl := af hM
  exact rt Tryz.func107 (.tmp rfl .nil) sr (hk _ _ _ ⟨rfl, rfl, rfl⟩)
 refine sp ?_
 refine sg aL ?_
 refine vs 1 ?_
 refine er ?_
 obtain rfl := af hM
 exact rt Tryz.func107 (.tmp rfl .nil) sr (hk _ _ _ ⟨rfl, rfl, rfl⟩)
theorem aDE (x0 : aq) (x1 : (List Int)) {aC aD aH v1 : Value} (ay : aj bm 5 R aC x0.az) (aB : aj CZ 1 R aD x0.Out) (aF : aj bh 2 R aH x0.aO) (h1 : bC CZ 1 R H v1 x1) {r : (Int × Int)} (hM : NA x0 x1 = some r) : aJ ag 24 #[.agg #[iv x0.aE, iv x0.aa.an, iv x0.aa.ax, aC, aD, aH], v1] R H (λ v R' H' => aN R R' ∧ H = H' ∧ v = .tuple #[iv r.1, iv r.2]) := by
 unfold NA at hM
 refine aJ.aX Tryz.func24 rfl (n := 49) rfl rfl λ fr cs hk => ?_
 refine sg aS ?_
 refine bx λ jY => ?_
 refine vs 2 ?_
 refine nx aS ?_
 refine lN [_, _, _, _, _, _] 0 6 aU z0 ?_
 obtain ⟨gb, oE, hM⟩ := ao hM
 refine At.cv zn (AY x0 ay aB aF oE) ?_
 rintro _ _ _ ⟨rfl, rfl, rfl⟩
 refine vs 1 ?_
 refine es ?_
 refine sg aQ ?_
 refine vs 2 ?_
 refine er ?_
 refine At.gR hM (λ (s8 : Int) R' H' st' => R = R' ∧ H' = (jY, .cells #[iv x0.aE, iv x0.aa.an, iv x0.aa.ax, aC, aD, aH] 28) :: H ∧ aK st' [(1, v1), (2, .pointer (some ⟨jY, 0, none⟩)), (6, iv s8)])  ?_ ?_
 rotate_right
 ·intro ju hM J5
  refine sc hM (λ Af hM => ?_) (λ Af hM => ?_)
  ·refine At.rg bn ?_
   refine lN [_, _, _, _, _, _] 0 6 aU z0 ?_
   refine vs 1 ?_
   obtain ⟨en, GL, hM⟩ := ao hM
   refine At.cv aic (awK x0 x1 ay aB aF (h1.sub (su (so sr))) GL) ?_
   rintro _ _ _ ⟨rfl, rfl, rfl⟩
   refine vs 1 ?_
   refine er ?_
   exact J5 _ (af hM).symm _ _ _ ⟨rfl, rfl, aA.sub ⟨rfl, rfl, rfl, trivial⟩⟩
  refine sp ?_
  exact J5 _ (af hM).symm _ _ _ ⟨rfl, rfl, aA.sub ⟨rfl, rfl, rfl, trivial⟩⟩
 rintro s8 agD af4 azP ⟨rfl, rfl, RS⟩ hM
 refine At.sub RS ?_
 refine sg eC ?_
 refine lN [_, _, _, _, _, _] 0 6 aU z0 ?_
 refine vs 1 ?_
 obtain ⟨iI, qH, hM⟩ := ao hM
 refine At.cv zo (A0 x0 s8 ay aB aF qH) ?_
 rintro _ za _ ⟨bY, rfl, adk, Tx, rfl⟩
 replace ay := ay.mono bY
 replace aB := aB.mono bY
 replace aF := aF.mono bY
 replace h1 := h1.le bY
 refine vs 5 ?_
 refine es ?_
 refine sg aQ ?_
 refine vs 2 ?_
 refine er ?_
 refine sc hM (λ Gn hM => ?_) (λ Gn hM => ?_)
 ·refine sg aS ?_
  refine vs 3 ?_
  refine er ?_
  obtain rfl := af hM
  exact rt Tryz.func24 (.tmp rfl (.tmp rfl .nil)) (so sr) (hk _ _ _ ⟨bY, rfl, rfl⟩)
 refine sp ?_
 refine sg aL ?_
 refine vs 1 ?_
 refine es ?_
 refine sg aL ?_
 refine vs 1 ?_
 refine er ?_
 refine At.block ?_
 refine At.c8 hM (λ (q8 : (Int × Int)) R' H' st' => za = R' ∧ H' = (jY, .cells #[iv x0.aE, iv x0.aa.an, iv x0.aa.ax, aC, aD, aH] 28) :: H ∧ aK st' [(1, v1), (2, .pointer (some ⟨jY, 0, none⟩)), (7, adk), (9, iv q8.1), (10, iv q8.2)]) (λ (HI : Int) R' H' st' => za = R' ∧ H = H' ∧ aK st' [(7, adk), (9, iv HI)]) 0 rfl ⟨rfl, rfl, aA.sub ⟨rfl, rfl, rfl, rfl, rfl, trivial⟩⟩ ?_ ?_
 rotate_right
 ·rintro q8 R62 H62 aOP ⟨rfl, rfl, aqT⟩ di hM XK ajG
  refine At.sub aqT ?_
  refine sq ?_
  refine sg bn ?_
  refine vs 2 ?_
  refine ls Tx Tryz.underlying115 ?_
  refine vs 1 ?_
  refine er ?_
  refine sc hM (λ Ak hM => ?_) (λ Ak hM => ?_)
  ·refine sp ?_
   refine sq ?_
   refine At.block ?_
   refine sq ?_
   refine At.dw mM mixed ?_
   refine tN 0 [_, _, _, _, _, _] 0 6 aU z0 ?_
   refine Any.vs 2 [1, 2] rfl ?_
   obtain ⟨jx, pH, hM⟩ := ao hM
   obtain ⟨tJ, GQ, hM⟩ := ao hM
   obtain ⟨JF, LA, _, ⟨aQR, avl, rfl⟩, uD, uE⟩ := Tx.elem L8 pH
   refine Any.tk 3 rfl pp (λ R' H' hR hS => Ox.bq rfl rfl rfl uE rfl (.one rfl) ⟨rfl, rfl, rfl⟩) ?_
   refine Any.tk 4 rfl pp (λ R' H' hR hS => Ox.bP (vs := [_, _]) rfl rfl rP rfl ((uD.up hR).part (j := 0) (n := 2) rfl) rfl (.one rfl) ⟨rfl, rfl, rfl⟩) ?_
   refine Any.vs 2 [5, 7] rfl ?_
   refine tl 8 0 bg z0 ?_
   refine Any.cv 6 YI (abt x0 jx x1 ay aB aF avl (h1.sub (su (so sr))) GQ) ?_
   rintro _ _ _ ⟨rfl, rfl, rfl⟩
   refine kp ?_
   refine Any.vs 1 [9] rfl ?_
   refine Any.done ?_
   refine sc hM (λ SW hM => ?_) (λ SW hM => ?_)
   ·refine At.rg aS ?_
    refine vs 3 ?_
    refine er ?_
    refine At.inBlock ?_
    refine At.rg aS ?_
    refine vs 3 ?_
    refine er ?_
    exact XK _ (af hM).symm _ _ _ ⟨rfl, rfl, aA.sub ⟨rfl, rfl, rfl, rfl, rfl, trivial⟩⟩
   refine sp ?_
   refine At.inBlock ?_
   refine At.rg aS ?_
   refine vs 3 ?_
   refine er ?_
   exact XK _ (af hM).symm _ _ _ ⟨rfl, rfl, aA.sub ⟨rfl, rfl, rfl, rfl, rfl, trivial⟩⟩
  exact At.exit rfl (At.drop (so sr) (ajG _ (af hM).symm _ _ _ ⟨rfl, rfl, aA.sub ⟨rfl, rfl, trivial⟩⟩))
 rintro HI aG0 aE9 aOQ ⟨rfl, rfl, aqU⟩ hM
 refine At.sub aqU ?_
 refine sg dy ?_
 refine vs 2 ?_
 refine ls Tx Tryz.underlying115 ?_
 obtain ⟨vM, GR, hM⟩ := ao hM
 refine At.cv aid (awL HI (iI.1.length : Int)  GR) ?_
 rintro _ _ _ ⟨rfl, rfl, rfl⟩
 refine vs 2 ?_
 refine er ?_
 obtain rfl := af hM
 exact rt Tryz.func24 (.tmp rfl (.tmp rfl .nil)) sr (hk _ _ _ ⟨bY, rfl, rfl⟩)
theorem abv (x0 : aq) {aC aD aH : Value} (ay : aj bm 5 R aC x0.az) (aB : aj CZ 1 R aD x0.Out) (aF : aj bh 2 R aH x0.aO) {r : (List (List Int))} (hM : IE x0 = some r) : aJ ag 111 #[.agg #[iv x0.aE, iv x0.aa.an, iv x0.aa.ax, aC, aD, aH]] R H (λ v R' H' => aN R R' ∧ H = H' ∧ ∃ bU, aj (ef CZ 1) 1 R' bU r ∧ v = bU) := by
 unfold IE at hM
 refine aJ.aX Tryz.func111 rfl (n := 60) rfl rfl λ fr cs hk => ?_
 refine sg aQ ?_
 refine bx λ eT => ?_
 refine vs 1 ?_
 refine nx aQ ?_
 refine At.s rfl rfl (Ox.buildSlice (cells := #[_]) rfl si rfl (by decide) r9 (bf rfl rfl rfl rfl aY) rfl λ XW _ _ => ⟨_, (.put rfl), ?_⟩)
 refine vs 1 ?_
 refine es ?_
 refine sg bn ?_
 refine vs 1 ?_
 refine ld 4 bL z1 ?_
 refine ls aB Tryz.underlying25 ?_
 refine vs 1 ?_
 refine er ?_
 refine At.block ?_
 refine At.c8 hM (λ (mN : ((List (List Int)) × Int)) R' H' st' => aN R R' ∧ ∃ yd fE, aZ (ef CZ 1) 1 25 R' yd mN.1 fE ∧ H' = fE ++ ((eT, .cells #[iv x0.aE, iv x0.aa.an, iv x0.aa.ax, aC, aD, aH] 28) :: H) ∧ aK st' [(1, .pointer (some ⟨eT, 0, none⟩)), (3, yd), (4, iv mN.2)]) (λ (LO : (List (List Int))) R' H' st' => aN R R' ∧ ∃ Mr Og, aZ (ef CZ 1) 1 25 R' Mr LO Og ∧ H' = Og ++ (H) ∧ aK st' [(3, Mr)]) 0 rfl ⟨rr, .slice (some ⟨XW, 0, none⟩) 1 1, [(XW, _)], (aZ.lit (aG.le (aG.cons (x := []) ⟨_, rfl, aj.nil⟩ rfl aG.nil) rfl) rfl), rfl, aA.sub ⟨rfl, rfl, rfl, trivial⟩⟩ ?_ ?_
 rotate_right
 ·rintro mN W4 aEY aOy ⟨Fq, yd, fE, sD, rfl, aqC⟩ aRk hM ahb ajy
  refine At.sub aqC ?_
  replace ay := ay.mono Fq
  replace aB := aB.mono Fq
  replace aF := aF.mono Fq
  refine sq ?_
  refine sg bT ?_
  refine vs 2 ?_
  refine ld 3 cK (List.mem_append_right _ z0) ?_
  refine ls ay Tryz.underlying24 ?_
  refine vs 1 ?_
  refine er ?_
  refine sc hM (λ asz hM => ?_) (λ asz hM => ?_)
  ·refine sp ?_
   refine sq ?_
   refine At.block ?_
   refine sg aL ?_
   refine vs 1 ?_
   refine es ?_
   refine sg aL ?_
   refine vs 1 ?_
   refine er ?_
   refine At.block ?_
   refine At.c8 hM (λ (oM : ((List (List Int)) × Int)) R' H' st' => aN W4 R' ∧ ∃ H9 wz, aZ (ef CZ 1) 1 25 R' H9 oM.1 wz ∧ H' = wz ++ (fE ++ ((eT, .cells #[iv x0.aE, iv x0.aa.an, iv x0.aa.ax, aC, aD, aH] 28) :: H)) ∧ aK st' [(1, .pointer (some ⟨eT, 0, none⟩)), (3, yd), (4, iv mN.2), (5, H9), (6, iv oM.2)]) (λ (LV : (List (List Int))) R' H' st' => aN W4 R' ∧ ∃ MC I3, aZ (ef CZ 1) 1 25 R' MC LV I3 ∧ H' = I3 ++ ((eT, .cells #[iv x0.aE, iv x0.aa.an, iv x0.aa.ax, aC, aD, aH] 28) :: H) ∧ aK st' [(1, .pointer (some ⟨eT, 0, none⟩)), (4, iv mN.2), (5, MC)]) 2 rfl ⟨rr, .slice none 0 0, [], aZ.nil, rfl, aA.sub ⟨rfl, rfl, rfl, rfl, rfl, trivial⟩⟩ ?_ ?_
   rotate_right
   ·rintro oM aG7 aFi aO6 ⟨Cg, H9, wz, KD, rfl, ara⟩ aRn hM ahj ajN
    refine At.sub ara ?_
    replace ay := ay.mono Cg
    replace aB := aB.mono Cg
    replace aF := aF.mono Cg
    replace sD := sD.mono Cg
    refine sq ?_
    refine sg bn ?_
    refine vs 2 ?_
    refine At.s rfl rfl (Ox.u0 rfl rfl sD Tryz.underlying135 rfl (.put rfl) ?_)
    refine vs 1 ?_
    refine er ?_
    refine sc hM (λ asD hM => ?_) (λ asD hM => ?_)
    ·refine sp ?_
     refine sq ?_
     refine At.block ?_
     refine sq ?_
     refine At.dw oV mixed ?_
     refine Any.tk 0 rfl pp (λ R' H' hR hS => Ox.bP (vs := [_, _, _, _, _, _]) rfl rfl aU rfl ((aT.box (hS _ (List.mem_append_right _ (List.mem_append_right _ z0)))).part (j := 0) (n := 6) rfl) rfl (.one rfl) ⟨rfl, rfl, rfl⟩) ?_
     refine Any.vs 1 [2] rfl ?_
     refine Any.tk 3 rfl pp (λ R' H' hR hS => Ox.bV rfl rfl bL ((aT.box (hS _ (List.mem_append_right _ (List.mem_append_right _ z0)))).one (j := 4) rfl) rfl (.one rfl) ⟨rfl, rfl, rfl⟩) ?_
     refine Any.vs 2 [5, 6] rfl ?_
     obtain ⟨Is, TD, hM⟩ := ao hM
     obtain ⟨adN, avs, hM⟩ := ao hM
     obtain ⟨Vs, avu, hM⟩ := ao hM
     obtain ⟨Vt, avv, hM⟩ := ao hM
     obtain ⟨aKp, aNl, _, ⟨aQX, rfl, avt⟩, QO, an9⟩ := (sD.rd (λ _ h => (List.mem_append_right _ (List.mem_append_left _ h)))).elem jL avs
     refine Any.tk 7 rfl pp (λ R' H' hR hS => Ox.bq rfl rfl rfl an9 rfl (.one rfl) ⟨rfl, rfl, rfl⟩) ?_
     refine Any.tk 8 rfl pp (λ R' H' hR hS => Ox.bV rfl rfl bL (((QO.le hR).sub (λ p h => hS p (pp p h))).one (j := 0) rfl) rfl (.one rfl) ⟨rfl, rfl, rfl⟩) ?_
     refine Any.on 1 rfl rfl (aR.to (Ox.buildSlice (cells := #[]) rfl ck rfl (by decide) p7 aY rfl λ aJc _ _ => ⟨_, (.put rfl), ⟨rr, (ku (so sr)), ?_⟩⟩))
     refine Any.on 4 rfl rfl (aR.to (Ox.append (K := CZ) (λ X => X ++ (wz ++ (fE ++ ((eT, _) :: H)))) rfl rfl rfl cR Tryz.underlying25 (by simp) .id (aZ.lit (aG.le aG.nil rfl) rfl) aB.arg TD rfl λ aQV aFZ apn => ⟨_, (.put rfl), ⟨rr, (ku (aP sr)), ?_⟩⟩))
     refine Any.on 9 rfl rfl (aR.to (Ox.append (K := CZ) (λ X => X ++ (wz ++ (fE ++ ((eT, _) :: H)))) rfl rfl rfl cR Tryz.underlying25 (by simp) .id apn avt.arg avu rfl λ aQY aF0 apo => ⟨_, (.put rfl), ⟨rr, (ku (aP sr)), ?_⟩⟩))
     refine Any.cv 10 YX (abI x0 Vs ay aB aF (apo.rd (λ _ h => (List.mem_append_left _ h))) avv) ?_
     rintro adl Xt _ ⟨FF, rfl, _, KU, rfl⟩
     replace QO := QO.le FF
     replace sD := sD.mono FF
     replace KD := KD.mono FF
     refine ⟨FF, (ku (aP sr)), ?_⟩
     refine Any.vs 1 [11] rfl ?_
     refine Any.done ?_
     refine sg aL ?_
     refine vs 1 ?_
     refine er ?_
     refine At.block ?_
     refine At.drop (H' := wz ++ (fE ++ ((eT, .cells #[iv x0.aE, iv x0.aa.an, iv x0.aa.ax, aC, aD, aH] 28) :: H))) (aP sr) ?_
     refine At.c8 hM (λ (tj : ((List (List Int)) × Int)) R' H' st' => aN Xt R' ∧ ∃ MG kh, aZ (ef CZ 1) 1 25 R' MG tj.1 kh ∧ H' = kh ++ (fE ++ ((eT, .cells #[iv x0.aE, iv x0.aa.an, iv x0.aa.ax, aC, aD, aH] 28) :: H)) ∧ aK st' [(1, .pointer (some ⟨eT, 0, none⟩)), (3, yd), (4, iv mN.2), (5, MG), (6, iv oM.2), (7, adl), (8, iv tj.2)]) (λ (LY : (List (List Int))) R' H' st' => aN Xt R' ∧ ∃ MF I5, aZ (ef CZ 1) 1 25 R' MF LY I5 ∧ H' = I5 ++ (fE ++ ((eT, .cells #[iv x0.aE, iv x0.aa.an, iv x0.aa.ax, aC, aD, aH] 28) :: H)) ∧ aK st' [(1, .pointer (some ⟨eT, 0, none⟩)), (3, yd), (4, iv mN.2), (5, MF), (6, iv oM.2)]) 4 rfl ⟨rr, H9, wz, KD, rfl, aA.sub ⟨rfl, rfl, rfl, rfl, rfl, rfl, rfl, trivial⟩⟩ ?_ ?_
     rotate_right
     ·rintro tj agF aFn aPb ⟨Kj, MG, kh, sE, rfl, arf⟩ aRp hM ahl ajP
      refine At.sub arf ?_
      replace sD := sD.mono Kj
      replace KU := KU.mono Kj
      refine sq ?_
      refine sg bn ?_
      refine vs 2 ?_
      refine ls KU Tryz.underlying25 ?_
      refine vs 1 ?_
      refine er ?_
      refine sc hM (λ asF hM => ?_) (λ asF hM => ?_)
      ·refine sp ?_
       refine sq ?_
       refine At.block ?_
       obtain ⟨adR, avC, hM⟩ := ao hM
       obtain ⟨adS, TF, hM⟩ := ao hM
       obtain ⟨It, avD, hM⟩ := ao hM
       obtain ⟨Iu, TG, hM⟩ := ao hM
       obtain ⟨Vv, TH, hM⟩ := ao hM
       refine At.cut (λ R' H' st' => aN agF R' ∧ ∃ (tB : Value) (rZ : au), aZ (ef CZ 1) 1 25 R' tB Vv rZ ∧ H' = rZ ++ (fE ++ ((eT, .cells #[iv x0.aE, iv x0.aa.an, iv x0.aa.ax, aC, aD, aH] 28) :: H)) ∧ aK st' [(1, .pointer (some ⟨eT, 0, none⟩)), (3, yd), (4, iv mN.2), (5, tB), (6, iv oM.2), (7, adl), (8, iv tj.2)]) ?_ ?_
       ·rintro aHw aFI aPz ⟨akQ, tB, rZ, zV, rfl, arG⟩
        refine At.sub arG ?_
        refine At.inBlock ?_
        refine At.rg aS ?_
        refine vs 3 ?_
        refine er ?_
        exact ahl _ (af hM).symm _ _ _ ⟨(Kj.trans akQ), tB, rZ, zV, rfl, aA.sub ⟨rfl, rfl, rfl, rfl, rfl, rfl, rfl, trivial⟩⟩
       intro QB
       refine At.draw (n := 16) (is := [0, 1, 2, 3, 4, 5, 6, 7, 8, 9, 10, 11, 12, 13, 14, 15]) (many (kh ++ (fE ++ ((eT, .cells #[iv x0.aE, iv x0.aa.an, iv x0.aa.ax, aC, aD, aH] 28) :: H))) [(14, fE ++ ((eT, .cells #[iv x0.aE, iv x0.aa.an, iv x0.aa.ax, aC, aD, aH] 28) :: H))]) mixed rfl (by decide +kernel) rfl rfl ?_
       refine Any.vs 3 [0, 2, 3] rfl ?_
       obtain ⟨aKr, aNn, _, ⟨aQ2, rfl, TE⟩, zF, aob⟩ := (sD.rd (λ _ h => (List.mem_append_right _ (List.mem_append_left _ h)))).elem jL avC
       refine ts 4 [5, 6, 12, 13, 14, 15] rfl (cq rfl (dm (su (aP (aP (so sr)))))) (su (aP (aP (so sr)))) (λ R' H' hR hS => Ox.bq rfl rfl rfl aob rfl (.one rfl) ⟨rfl, rfl, rfl⟩) ?_
       refine ts 5 [6, 12, 13, 14, 15] rfl (cq rfl (dm pp)) pp (λ R' H' hR hS => Ox.bV rfl rfl bL (((zF.le hR).sub (λ p h => hS p (pp p h))).one (j := 0) rfl) rfl (.one rfl) ⟨rfl, rfl, rfl⟩) ?_
       refine Any.vs 2 [7, 8] rfl ?_
       obtain ⟨aKs, aNo, _, rfl, zG, aoc⟩ := KU.elem cL avD
       refine ts 9 [10, 11, 12, 13, 14, 15] rfl (cq rfl (dm (su (aP (aP (so sr)))))) (su (aP (aP (so sr)))) (λ R' H' hR hS => Ox.bq rfl rfl rfl aoc rfl (.one rfl) ⟨rfl, rfl, rfl⟩) ?_
       refine ts 10 [11, 12, 13, 14, 15] rfl (cq rfl (dm (su (aP (aP (so sr)))))) (su (aP (aP (so sr)))) (λ R' H' hR hS => Ox.bV rfl rfl bg ((zG.up hR).one (j := 0) rfl) rfl (.one rfl) ⟨rfl, rfl, rfl⟩) ?_
       refine tw 1 11 ?_ ?_
       ·refine  (aR.to (Ox.buildSlice (cells := #[]) rfl ck rfl (by decide) p7 aY rfl λ ahG _ _ => ⟨_, (.put rfl), ⟨rr, (bO rfl (su (so sr))), ?_⟩⟩))
        refine tw 6 11 ?_ ?_
        ·refine  (aR.to (Ox.append (K := CZ) (λ X => X ++ (kh ++ (fE ++ ((eT, _) :: H)))) rfl rfl rfl cR Tryz.underlying25 (by simp) .id (aZ.lit (aG.le aG.nil rfl) rfl) TE.arg TF rfl λ adm WN FY => ⟨_, (.put rfl), ⟨rr, (bO rfl (su (aP sr))), ?_⟩⟩))
         refine Any.on 11 rfl rfl (aR.to (Ox.buildSlice (cells := #[_]) rfl ck rfl (by decide) cS (bf rfl rfl rfl rfl aY) rfl λ kZ _ _ => ⟨_, (.put rfl), ⟨rr, (bO rfl (su (so (aP sr)))), ?_⟩⟩))
         refine Any.on 12 rfl rfl (aR.to (Ox.append (K := CZ) (λ X => (kZ, _) :: X ++ (kh ++ (fE ++ ((eT, _) :: H)))) rfl rfl rfl cR Tryz.underlying25 (by simp) (.cons .id) FY (cE.lit z0 (aG.le (aG.cons (x := It) rfl rfl aG.nil) rfl) rfl) TG rfl λ adn WO xd => ⟨_, (.put rfl), ⟨rr, (bO rfl (su (so (aP sr)))), ?_⟩⟩))
         refine Any.dB (H2 := (kZ, _) :: kh ++ (fE ++ ((eT, _) :: H))) (λ X => (kZ, _) :: X ++ (kh ++ (fE ++ ((eT, _) :: H)))) (.cons .id) rfl xd (by decide) (by decide) (Lj (su (so (aP sr))) (Li (su (so sr)))) (λ Xe nk FK => ?_)
         replace zF := zF.le nk
         replace zG := zG.up (H := []) nk
         replace sE := sE.mono nk
         refine Any.on 13 rfl rfl (aR.to (Ox.buildSlice (cells := #[_]) rfl si rfl (by decide) r9 (bf rfl xd.cells rfl rfl aY) rfl λ EZ _ _ => ⟨_, (.put rfl), ⟨rr, (bO rfl (su (so (so sr)))), ?_⟩⟩))
         refine Any.on 14 rfl rfl (aR.to (Ox.append (K := (ef CZ 1)) (λ X => (EZ, _) :: (kZ, _) :: X ++ (fE ++ ((eT, _) :: H))) rfl rfl rfl zd Tryz.underlying135 (by simp) (.cons (.cons .id)) sE (cE.lit z0 (aG.le (aG.cons (x := Iu) ⟨_, rfl, FK⟩ rfl aG.nil) rfl) rfl) TH rfl λ tB rZ zV => ⟨_, (.put rfl), ⟨rr, (bO rfl (su (so (so (aP sr))))), ?_⟩⟩))
         refine Any.vs 1 [15] rfl ?_
         exact Any.done (At.drop (so (so sr)) (QB _ _ _ ⟨nk, tB, rZ, zV, rfl, aA.sub ⟨rfl, rfl, rfl, rfl, rfl, rfl, rfl, trivial⟩⟩))
        refine  (aR.to (Ox.buildSlice (cells := #[_]) rfl ck rfl (by decide) cS (bf rfl rfl rfl rfl aY) rfl λ kZ _ _ => ⟨_, (.put rfl), ⟨rr, (bO rfl (su (so (so sr)))), ?_⟩⟩))
        refine Any.on 6 rfl rfl (aR.to (Ox.append (K := CZ) (λ X => (kZ, _) :: X ++ (kh ++ (fE ++ ((eT, _) :: H)))) rfl rfl rfl cR Tryz.underlying25 (by simp) (.cons .id) (aZ.lit (aG.le aG.nil rfl) rfl) TE.arg TF rfl λ adm WN FY => ⟨_, (.put rfl), ⟨rr, (bO rfl (su (so (aP sr)))), ?_⟩⟩))
        refine Any.on 12 rfl rfl (aR.to (Ox.append (K := CZ) (λ X => (kZ, _) :: X ++ (kh ++ (fE ++ ((eT, _) :: H)))) rfl rfl rfl cR Tryz.underlying25 (by simp) (.cons .id) FY (cE.lit z0 (aG.le (aG.cons (x := It) rfl rfl aG.nil) rfl) rfl) TG rfl λ adn WO xd => ⟨_, (.put rfl), ⟨rr, (bO rfl (su (so (aP sr)))), ?_⟩⟩))
        refine Any.dB (H2 := (kZ, _) :: kh ++ (fE ++ ((eT, _) :: H))) (λ X => (kZ, _) :: X ++ (kh ++ (fE ++ ((eT, _) :: H)))) (.cons .id) rfl xd (by decide) (by decide) (Lj (su (so (aP sr))) (Li (su (so sr)))) (λ Xe nk FK => ?_)
        replace zF := zF.le nk
        replace zG := zG.up (H := []) nk
        replace sE := sE.mono nk
        refine Any.on 13 rfl rfl (aR.to (Ox.buildSlice (cells := #[_]) rfl si rfl (by decide) r9 (bf rfl xd.cells rfl rfl aY) rfl λ EZ _ _ => ⟨_, (.put rfl), ⟨rr, (bO rfl (su (so (so sr)))), ?_⟩⟩))
        refine Any.on 14 rfl rfl (aR.to (Ox.append (K := (ef CZ 1)) (λ X => (EZ, _) :: (kZ, _) :: X ++ (fE ++ ((eT, _) :: H))) rfl rfl rfl zd Tryz.underlying135 (by simp) (.cons (.cons .id)) sE (cE.lit z0 (aG.le (aG.cons (x := Iu) ⟨_, rfl, FK⟩ rfl aG.nil) rfl) rfl) TH rfl λ tB rZ zV => ⟨_, (.put rfl), ⟨rr, (bO rfl (su (so (so (aP sr))))), ?_⟩⟩))
        refine Any.vs 1 [15] rfl ?_
        exact Any.done (At.drop (so (so sr)) (QB _ _ _ ⟨nk, tB, rZ, zV, rfl, aA.sub ⟨rfl, rfl, rfl, rfl, rfl, rfl, rfl, trivial⟩⟩))
       refine  (aR.to (Ox.buildSlice (cells := #[_]) rfl ck rfl (by decide) cS (bf rfl rfl rfl rfl aY) rfl λ kZ _ _ => ⟨_, (.put rfl), ⟨rr, (bO rfl (su (so sr))), ?_⟩⟩))
       refine Any.on 1 rfl rfl (aR.to (Ox.buildSlice (cells := #[]) rfl ck rfl (by decide) p7 aY rfl λ ahG _ _ => ⟨_, (.put rfl), ⟨rr, (bO rfl (su (so (so sr)))), ?_⟩⟩))
       refine Any.on 6 rfl rfl (aR.to (Ox.append (K := CZ) (λ X => X ++ ((kZ, _) :: kh ++ (fE ++ ((eT, _) :: H)))) rfl rfl rfl cR Tryz.underlying25 (by simp) .id (aZ.lit (aG.le aG.nil rfl) rfl) TE.arg TF rfl λ adm WN FY => ⟨_, (.put rfl), ⟨rr, (bO rfl (su (aP (so sr)))), ?_⟩⟩))
       refine Any.on 12 rfl rfl (aR.to (Ox.append (K := CZ) (λ X => X ++ ((kZ, _) :: kh ++ (fE ++ ((eT, _) :: H)))) rfl rfl rfl cR Tryz.underlying25 (by simp) .id FY (cE.lit (List.mem_append_right _ z0) (aG.le (aG.cons (x := It) rfl rfl aG.nil) rfl) rfl) TG rfl λ adn WO xd => ⟨_, (.put rfl), ⟨rr, (bO rfl (su (aP (so sr)))), ?_⟩⟩))
       refine Any.dB (H2 := (kZ, _) :: kh ++ (fE ++ ((eT, _) :: H))) (λ X => X ++ ((kZ, _) :: kh ++ (fE ++ ((eT, _) :: H)))) .id rfl xd (by decide) (by decide) (Lj (su (so (aP sr))) (Li (su (so sr)))) (λ Xe nk FK => ?_)
       replace zF := zF.le nk
       replace zG := zG.up (H := []) nk
       replace sE := sE.mono nk
       refine Any.on 13 rfl rfl (aR.to (Ox.buildSlice (cells := #[_]) rfl si rfl (by decide) r9 (bf rfl xd.cells rfl rfl aY) rfl λ EZ _ _ => ⟨_, (.put rfl), ⟨rr, (bO rfl (su (so (so sr)))), ?_⟩⟩))
       refine Any.on 14 rfl rfl (aR.to (Ox.append (K := (ef CZ 1)) (λ X => (EZ, _) :: (kZ, _) :: X ++ (fE ++ ((eT, _) :: H))) rfl rfl rfl zd Tryz.underlying135 (by simp) (.cons (.cons .id)) sE (cE.lit z0 (aG.le (aG.cons (x := Iu) ⟨_, rfl, FK⟩ rfl aG.nil) rfl) rfl) TH rfl λ tB rZ zV => ⟨_, (.put rfl), ⟨rr, (bO rfl (su (so (so (aP sr))))), ?_⟩⟩))
       refine Any.vs 1 [15] rfl ?_
       exact Any.done (At.drop (so (so sr)) (QB _ _ _ ⟨nk, tB, rZ, zV, rfl, aA.sub ⟨rfl, rfl, rfl, rfl, rfl, rfl, rfl, trivial⟩⟩))
      exact At.exit rfl (ajP _ (af hM).symm _ _ _ ⟨Kj, MG, kh, sE, rfl, aA.sub ⟨rfl, rfl, rfl, rfl, rfl, trivial⟩⟩)
     rintro LY aHc aFo aPc ⟨akO, MF, I5, aoY, rfl, arh⟩ hM
     refine At.sub arh ?_
     refine At.inBlock ?_
     refine At.rg aS ?_
     refine vs 3 ?_
     refine er ?_
     exact ahj _ (af hM).symm _ _ _ ⟨((Cg.trans FF).trans akO), MF, I5, aoY, rfl, aA.sub ⟨rfl, rfl, rfl, rfl, rfl, trivial⟩⟩
    exact At.exit rfl (At.drop (eD (aP sr)) (ajN _ (af hM).symm _ _ _ ⟨Cg, H9, wz, KD, rfl, aA.sub ⟨rfl, rfl, rfl, trivial⟩⟩))
   rintro LV aG8 aFj aO7 ⟨akM, MC, I3, aoW, rfl, arb⟩ hM
   refine At.sub arb ?_
   refine At.rg aQ ?_
   refine vs 2 ?_
   refine er ?_
   refine At.inBlock ?_
   refine At.rg aS ?_
   refine vs 3 ?_
   refine er ?_
   exact ahb _ (af hM).symm _ _ _ ⟨(Fq.trans akM), MC, I3, aoW, rfl, aA.sub ⟨rfl, rfl, rfl, trivial⟩⟩
  exact At.exit rfl (At.drop (eD (so sr)) (ajy _ (af hM).symm _ _ _ ⟨Fq, yd, fE, sD, rfl, aA.sub ⟨rfl, trivial⟩⟩))
 rintro LO aGT aEZ aOz ⟨akG, Mr, Og, aoO, rfl, aqD⟩ hM
 refine At.sub aqD ?_
 refine sg aQ ?_
 refine vs 2 ?_
 refine er ?_
 refine At.dB (H2 := H) (λ X => X ++ (H)) .id rfl aoO (λ aH4 ak4 amT => ?_)
 obtain rfl := af hM
 exact rt Tryz.func111 (.tmp rfl .nil) sr (hk _ _ _ ⟨(akG.trans ak4), rfl, Mr, amT, rfl⟩)
theorem abu (x0 : aq) (x1 : (List cB)) {aC aD aH v1 : Value} (ay : aj bm 5 R aC x0.az) (aB : aj CZ 1 R aD x0.Out) (aF : aj bh 2 R aH x0.aO) (h1 : bC oY 2 R H v1 x1) {r : (List (List Int))} (hM : ID x0 x1 = some r) : aJ ag 109 #[.agg #[iv x0.aE, iv x0.aa.an, iv x0.aa.ax, aC, aD, aH], v1] R H (λ v R' H' => aN R R' ∧ H = H' ∧ ∃ bU, aj (ef CZ 1) 1 R' bU r ∧ v = bU) := by
 unfold ID at hM
 refine aJ.aX Tryz.func109 rfl (n := 34) rfl rfl λ fr cs hk => ?_
 refine sg aQ ?_
 refine bx λ jY => ?_
 refine vs 1 ?_
 refine nx aS ?_
 refine lN [_, _, _, _, _, _] 0 6 aU z0 ?_
 obtain ⟨gb, oE, hM⟩ := ao hM
 refine At.cv YK (abv x0 ay aB aF oE) ?_
 rintro Vb ON _ ⟨qs, rfl, _, xz, rfl⟩
 replace ay := ay.mono qs
 replace aB := aB.mono qs
 replace aF := aF.mono qs
 replace h1 := h1.le qs
 refine vs 1 ?_
 refine nx aL ?_
 refine vs 1 ?_
 refine es ?_
 refine sg aL ?_
 refine vs 1 ?_
 refine er ?_
 refine At.block ?_
 refine At.c8 hM (λ (pU : ((List (List Int)) × Int)) R' H' st' => ON = R' ∧ ∃ HY EC, aZ (ef CZ 1) 1 25 R' HY pU.1 EC ∧ H' = EC ++ ((jY, .cells #[iv x0.aE, iv x0.aa.an, iv x0.aa.ax, aC, aD, aH] 28) :: H) ∧ aK st' [(1, v1), (2, .pointer (some ⟨jY, 0, none⟩)), (5, Vb), (6, HY), (7, iv pU.2)]) (λ (s8 : (List (List Int))) R' H' st' => ON = R' ∧ ∃ Mx Om, aZ (ef CZ 1) 1 25 R' Mx s8 Om ∧ H' = Om ++ (H) ∧ aK st' [(6, Mx)]) 0 rfl ⟨rfl, .slice none 0 0, [], aZ.nil, rfl, aA.sub ⟨rfl, rfl, rfl, rfl, rfl, trivial⟩⟩ ?_ ?_
 rotate_right
 ·rintro pU R53 H53 aOI ⟨rfl, HY, EC, Rp, rfl, aqM⟩ ju hM XH J5
  refine At.sub aqM ?_
  refine sq ?_
  refine sg bn ?_
  refine vs 2 ?_
  refine ls xz Tryz.underlying135 ?_
  refine vs 1 ?_
  refine er ?_
  refine sc hM (λ Gv hM => ?_) (λ Gv hM => ?_)
  ·refine sp ?_
   refine sq ?_
   refine At.block ?_
   refine sq ?_
   refine At.dw mM mixed ?_
   refine tN 0 [_, _, _, _, _, _] 0 6 aU (List.mem_append_right _ z0) ?_
   refine Any.vs 3 [1, 2, 3] rfl ?_
   obtain ⟨iY, pG, hM⟩ := ao hM
   obtain ⟨nR, Au, hM⟩ := ao hM
   obtain ⟨aKh, aNd, _, ⟨DL, rfl, avi⟩, al9, an1⟩ := xz.elem jL pG
   refine Any.tk 4 rfl pp (λ R' H' hR hS => Ox.bq rfl rfl rfl an1 rfl (.one rfl) ⟨rfl, rfl, rfl⟩) ?_
   refine Any.tk 5 rfl pp (λ R' H' hR hS => Ox.bV rfl rfl bL ((al9.up hR).one (j := 0) rfl) rfl (.one rfl) ⟨rfl, rfl, rfl⟩) ?_
   refine Any.vs 1 [7] rfl ?_
   refine tl 8 0 bg (List.mem_append_right _ z0) ?_
   refine Any.cv 6 J1 (Lh x0 x1 iY ay aB aF (h1.sub (su (aP (so sr)))) avi.rd Au) ?_
   rintro _ _ _ ⟨rfl, rfl, rfl⟩
   refine kp ?_
   refine Any.vs 1 [9] rfl ?_
   refine Any.done ?_
   refine sc hM (λ Ak hM => ?_) (λ Ak hM => ?_)
   ·refine At.rg eC ?_
    refine vs 3 ?_
    obtain ⟨jx, pH, hM⟩ := ao hM
    obtain ⟨nY, Cz, hM⟩ := ao hM
    obtain ⟨JF, LA, _, ⟨Vd, rfl, KT⟩, uD, uE⟩ := xz.elem jL pH
    refine At.s rfl rfl (Ox.bq rfl rfl rfl uE rfl (.put rfl) ?_)
    refine At.ld bL (uD.any.one (j := 0) rfl) ?_
    refine At.s rfl rfl (Ox.buildSlice (cells := #[_]) rfl si rfl (by decide) r9 (bf rfl KT.cells rfl rfl aY) rfl λ VD _ _ => ⟨_, (.put rfl), ?_⟩)
    refine At.s rfl rfl (Ox.append (K := (ef CZ 1)) (λ X => (VD, _) :: X ++ ((jY, _) :: H)) rfl rfl rfl zd Tryz.underlying135 (by simp) (.cons .id) Rp (cE.lit z0 (aG.le (aG.cons (x := jx) ⟨_, rfl, KT⟩ rfl aG.nil) rfl) rfl) Cz rfl λ aBp ago apm => ⟨_, (.put rfl), ?_⟩)
    refine vs 1 ?_
    refine er ?_
    refine At.inBlock ?_
    refine At.rg aS ?_
    refine vs 3 ?_
    refine er ?_
    exact At.drop (so sr) (XH _ (af hM).symm _ _ _ ⟨rfl, aBp, ago, apm, rfl, aA.sub ⟨rfl, rfl, rfl, rfl, rfl, trivial⟩⟩)
   refine sp ?_
   refine At.inBlock ?_
   refine At.rg aS ?_
   refine vs 3 ?_
   refine er ?_
   exact XH _ (af hM).symm _ _ _ ⟨rfl, HY, EC, Rp, rfl, aA.sub ⟨rfl, rfl, rfl, rfl, rfl, trivial⟩⟩
  exact At.exit rfl (At.drop (eD (so sr)) (J5 _ (af hM).symm _ _ _ ⟨rfl, HY, EC, Rp, rfl, aA.sub ⟨rfl, trivial⟩⟩))
 rintro s8 agD af4 azP ⟨rfl, Mx, Om, aoS, rfl, RS⟩ hM
 refine At.sub RS ?_
 refine sg aQ ?_
 refine vs 2 ?_
 refine er ?_
 refine At.dB (H2 := H) (λ X => X ++ (H)) .id rfl aoS (λ aH1 ak2 amQ => ?_)
 obtain rfl := af hM
 exact rt Tryz.func109 (.tmp rfl .nil) sr (hk _ _ _ ⟨(qs.trans ak2), rfl, Mx, amQ, rfl⟩)
theorem aDF (x0 : aq) {aC aD aH : Value} (ay : aj bm 5 R aC x0.az) (aB : aj CZ 1 R aD x0.Out) (aF : aj bh 2 R aH x0.aO) {r : (Int × Int)} (hM : NB x0 = some r) : aJ ag 26 #[.agg #[iv x0.aE, iv x0.aa.an, iv x0.aa.ax, aC, aD, aH]] R H (λ v R' H' => aN R R' ∧ H = H' ∧ v = .tuple #[iv r.1, iv r.2]) := by
 unfold NB at hM
 refine aJ.aX Tryz.func26 rfl (n := 18) rfl rfl λ fr cs hk => ?_
 refine sg aS ?_
 refine bx λ n9 => ?_
 refine vs 2 ?_
 refine nx dY ?_
 refine lN [_, _, _, _, _, _] 0 6 aU z0 ?_
 obtain ⟨fQ, mD, hM⟩ := ao hM
 refine At.cv zo (A0 x0 0 ay aB aF mD) ?_
 rintro _ aIq _ ⟨FA, rfl, aP2, at1, rfl⟩
 replace ay := ay.mono FA
 replace aB := aB.mono FA
 replace aF := aF.mono FA
 refine vs 5 ?_
 refine es ?_
 refine sg aQ ?_
 refine vs 2 ?_
 refine er ?_
 refine sc hM (λ kE hM => ?_) (λ kE hM => ?_)
 ·refine sg aS ?_
  refine vs 3 ?_
  refine er ?_
  obtain rfl := af hM
  exact rt Tryz.func26 (.tmp rfl (.tmp rfl .nil)) (so sr) (hk _ _ _ ⟨FA, rfl, rfl⟩)
 refine sp ?_
 refine sg dy ?_
 refine lN [_, _, _, _, _, _] 0 6 aU z0 ?_
 refine vs 1 ?_
 obtain ⟨jO, uR, hM⟩ := ao hM
 refine At.cv YJ (abu x0 fQ.1 ay aB aF at1.rd uR) ?_
 rintro aP8 agO _ ⟨wZ, rfl, _, aue, rfl⟩
 refine ls aue Tryz.underlying135 ?_
 refine vs 2 ?_
 refine er ?_
 obtain rfl := af hM
 exact rt Tryz.func26 (.tmp rfl (.tmp rfl .nil)) (so sr) (hk _ _ _ ⟨(FA.trans wZ), rfl, rfl⟩)
theorem aDG (x0 : aq) {aC aD aH : Value} (ay : aj bm 5 R aC x0.az) (aB : aj CZ 1 R aD x0.Out) (aF : aj bh 2 R aH x0.aO) {r : ((List Int) × Bool × Int)} (hM : NC x0 = some r) : aJ ag 28 #[.agg #[iv x0.aE, iv x0.aa.an, iv x0.aa.ax, aC, aD, aH]] R H (λ v R' H' => aN R R' ∧ H = H' ∧ ∃ bU, aj CZ 1 R' bU r.1 ∧ v = .tuple #[bU, .bool r.2.1, iv r.2.2]) := by
 unfold NC at hM
 refine aJ.aX Tryz.func28 rfl (n := 25) rfl rfl λ fr cs hk => ?_
 refine sg bn ?_
 refine bx λ gJ => ?_
 refine vs 3 ?_
 refine nx dY ?_
 refine lN [_, _, _, _, _, _] 0 6 aU z0 ?_
 obtain ⟨ei, uS, hM⟩ := ao hM
 refine At.cv zo (A0 x0 0 ay aB aF uS) ?_
 rintro _ Jk _ ⟨lf, rfl, aP9, aug, rfl⟩
 replace ay := ay.mono lf
 replace aB := aB.mono lf
 replace aF := aF.mono lf
 refine vs 5 ?_
 refine es ?_
 refine sg aQ ?_
 refine vs 2 ?_
 refine er ?_
 refine sc hM (λ Gi hM => ?_) (λ Gi hM => ?_)
 ·refine sg bn ?_
  refine vs 4 ?_
  refine er ?_
  obtain rfl := af hM
  exact rt Tryz.func28 (.tmp rfl (.tmp rfl (.tmp rfl .nil))) (so sr) (hk _ _ _ ⟨lf, rfl, .slice none 0 0, aj.nil, rfl⟩)
 refine sp ?_
 refine sg bn ?_
 refine lN [_, _, _, _, _, _] 0 6 aU z0 ?_
 refine vs 1 ?_
 obtain ⟨fJ, qF, hM⟩ := ao hM
 refine At.cv YJ (abu x0 ei.1 ay aB aF aug.rd qF) ?_
 rintro adg Xj _ ⟨og, rfl, _, KM, rfl⟩
 refine vs 1 ?_
 refine es ?_
 refine sg aS ?_
 refine vs 1 ?_
 refine ls KM Tryz.underlying135 ?_
 refine vs 1 ?_
 refine er ?_
 refine sc hM (λ SN hM => ?_) (λ SN hM => ?_)
 ·refine sg aS ?_
  refine vs 3 ?_
  refine er ?_
  obtain rfl := af hM
  exact rt Tryz.func28 (.tmp rfl (.tmp rfl (.tmp rfl .nil))) (so sr) (hk _ _ _ ⟨(lf.trans og), rfl, .slice none 0 0, aj.nil, rfl⟩)
 refine sp ?_
 refine sg dy ?_
 refine vs 1 ?_
 obtain ⟨nO, uT, hM⟩ := ao hM
 obtain ⟨aJS, aMT, _, ⟨pY, rfl, auR⟩, alP, anE⟩ := KM.elem jL uT
 refine At.s rfl rfl (Ox.bq rfl rfl rfl anE rfl (.put rfl) ?_)
 refine At.ld bL (alP.any.one (j := 0) rfl) ?_
 refine vs 3 ?_
 refine er ?_
 obtain rfl := af hM
 exact rt Tryz.func28 (.tmp rfl (.tmp rfl (.tmp rfl .nil))) (so sr) (hk _ _ _ ⟨(lf.trans og), rfl, pY, auR, rfl⟩)
theorem aDH (x0 : aq) {aC aD aH : Value} (ay : aj bm 5 R aC x0.az) (aB : aj CZ 1 R aD x0.Out) (aF : aj bh 2 R aH x0.aO) {r : ((List Int) × Int × Int)} (hM : ND x0 = some r) : aJ ag 30 #[.agg #[iv x0.aE, iv x0.aa.an, iv x0.aa.ax, aC, aD, aH]] R H (λ v R' H' => aN R R' ∧ H = H' ∧ ∃ bU, aj CZ 1 R' bU r.1 ∧ v = .tuple #[bU, iv r.2.1, iv r.2.2]) := by
 unfold ND at hM
 refine aJ.aX Tryz.func30 rfl (n := 54) rfl rfl λ fr cs hk => ?_
 refine sg bn ?_
 refine bx λ jY => ?_
 refine vs 3 ?_
 refine nx dY ?_
 refine lN [_, _, _, _, _, _] 0 6 aU z0 ?_
 obtain ⟨gb, oE, hM⟩ := ao hM
 refine At.cv zo (A0 x0 0 ay aB aF oE) ?_
 rintro _ ON _ ⟨qs, rfl, Vb, xz, rfl⟩
 replace ay := ay.mono qs
 replace aB := aB.mono qs
 replace aF := aF.mono qs
 refine vs 5 ?_
 refine es ?_
 refine sg aQ ?_
 refine vs 2 ?_
 refine er ?_
 refine sc hM (λ qC hM => ?_) (λ qC hM => ?_)
 ·refine sg bn ?_
  refine vs 4 ?_
  refine er ?_
  obtain rfl := af hM
  exact rt Tryz.func30 (.tmp rfl (.tmp rfl (.tmp rfl .nil))) (so sr) (hk _ _ _ ⟨qs, rfl, .slice none 0 0, aj.nil, rfl⟩)
 refine sp ?_
 refine sg aS ?_
 refine lN [_, _, _, _, _, _] 0 6 aU z0 ?_
 obtain ⟨dX, mG, hM⟩ := ao hM
 refine At.cv YK (abv x0 ay aB aF mG) ?_
 rintro Vc wF _ ⟨eA, rfl, _, uW, rfl⟩
 replace ay := ay.mono eA
 replace aB := aB.mono eA
 replace aF := aF.mono eA
 replace xz := xz.mono eA
 refine vs 1 ?_
 refine es ?_
 refine At.dw yO mixed ?_
 refine Any.vs 1 [0] rfl ?_
 obtain ⟨en, GL, hM⟩ := ao hM
 obtain ⟨iI, qH, hM⟩ := ao hM
 obtain ⟨Br, Ty, hM⟩ := ao hM
 obtain ⟨ahU, ayy, _, ⟨aA4, rfl, au3⟩, QI, Q4⟩ := uW.elem jL GL
 refine Any.tk 1 rfl pp (λ R' H' hR hS => Ox.bq rfl rfl rfl Q4 rfl (.one rfl) ⟨rfl, rfl, rfl⟩) ?_
 refine Any.tk 2 rfl pp (λ R' H' hR hS => Ox.bV rfl rfl bL ((QI.up hR).one (j := 0) rfl) rfl (.one rfl) ⟨rfl, rfl, rfl⟩) ?_
 refine tN 3 [_, _, _, _, _, _] 0 6 aU z0 ?_
 refine Any.vs 2 [4, 5] rfl ?_
 obtain ⟨aJ5, aM4, _, ⟨Ig, rfl, au4⟩, al0, anR⟩ := uW.elem jL qH
 refine Any.tk 6 rfl pp (λ R' H' hR hS => Ox.bq rfl rfl rfl anR rfl (.one rfl) ⟨rfl, rfl, rfl⟩) ?_
 refine Any.tk 7 rfl pp (λ R' H' hR hS => Ox.bV rfl rfl bL ((al0.up hR).one (j := 0) rfl) rfl (.one rfl) ⟨rfl, rfl, rfl⟩) ?_
 refine Any.cv 8 J1 (Lh x0 gb.1 iI ay aB aF xz.rd au4.rd Ty) ?_
 rintro _ _ _ ⟨rfl, rfl, rfl⟩
 refine kp ?_
 refine Any.vs 2 [9, 10] rfl ?_
 refine Any.done ?_
 refine sq ?_
 refine sg aL ?_
 refine vs 1 ?_
 refine er ?_
 refine At.block ?_
 refine At.c8 hM (λ (ia : ((List Int) × Int × Int)) R' H' st' => wF = R' ∧ ∃ HZ, aj CZ 1 R' HZ ia.1 ∧ H' = (jY, .cells #[iv x0.aE, iv x0.aa.an, iv x0.aa.ax, aC, aD, aH] 28) :: H ∧ aK st' [(1, .pointer (some ⟨jY, 0, none⟩)), (5, Vb), (7, Vc), (8, HZ), (9, iv ia.2.1), (10, iv ia.2.2)]) (λ (oJ : ((List Int) × Int)) R' H' st' => wF = R' ∧ ∃ My, aj CZ 1 R' My oJ.1 ∧ H = H' ∧ aK st' [(8, My), (9, iv oJ.2)]) 0 rfl ⟨rfl, aA4, au3, rfl, aA.sub ⟨rfl, rfl, rfl, rfl, rfl, rfl, trivial⟩⟩ ?_ ?_
 rotate_right
 ·rintro ia R60 H60 azQ ⟨rfl, HZ, Zm, rfl, RU⟩ eY hM Jr Ca
  refine At.sub RU ?_
  refine sq ?_
  refine sg bn ?_
  refine vs 2 ?_
  refine ls uW Tryz.underlying135 ?_
  refine vs 1 ?_
  refine er ?_
  refine sc hM (λ Ak hM => ?_) (λ Ak hM => ?_)
  ·refine sp ?_
   refine sq ?_
   refine At.block ?_
   refine sq ?_
   refine At.dw eC mixed ?_
   refine tN 0 [_, _, _, _, _, _] 0 6 aU z0 ?_
   refine Any.vs 3 [1, 2, 3] rfl ?_
   obtain ⟨jx, pH, hM⟩ := ao hM
   obtain ⟨tJ, GQ, hM⟩ := ao hM
   obtain ⟨JF, LA, _, ⟨Vd, rfl, KT⟩, uD, uE⟩ := uW.elem jL pH
   refine Any.tk 4 rfl pp (λ R' H' hR hS => Ox.bq rfl rfl rfl uE rfl (.one rfl) ⟨rfl, rfl, rfl⟩) ?_
   refine Any.tk 5 rfl pp (λ R' H' hR hS => Ox.bV rfl rfl bL ((uD.up hR).one (j := 0) rfl) rfl (.one rfl) ⟨rfl, rfl, rfl⟩) ?_
   refine Any.cv 6 J1 (Lh x0 gb.1 jx ay aB aF xz.rd KT.rd GQ) ?_
   rintro _ _ _ ⟨rfl, rfl, rfl⟩
   refine kp ?_
   refine Any.vs 1 [7] rfl ?_
   refine Any.done ?_
   refine sg aS ?_
   refine vs 3 ?_
   refine er ?_
   refine sc hM (λ SW hM => ?_) (λ SW hM => ?_)
   ·refine At.rg dY ?_
    refine vs 2 ?_
    obtain ⟨vM, GR, hM⟩ := ao hM
    obtain ⟨aKk, aNg, _, ⟨aBq, rfl, avo⟩, amc, an4⟩ := uW.elem jL GR
    refine At.s rfl rfl (Ox.bq rfl rfl rfl an4 rfl (.put rfl) ?_)
    refine At.ld bL (amc.any.one (j := 0) rfl) ?_
    refine vs 3 ?_
    refine er ?_
    refine At.inBlock ?_
    refine At.rg aS ?_
    refine vs 3 ?_
    refine er ?_
    exact Jr _ (af hM).symm _ _ _ ⟨rfl, aBq, avo, rfl, aA.sub ⟨rfl, rfl, rfl, rfl, rfl, rfl, trivial⟩⟩
   refine sp ?_
   refine At.inBlock ?_
   refine At.rg aS ?_
   refine vs 3 ?_
   refine er ?_
   exact Jr _ (af hM).symm _ _ _ ⟨rfl, HZ, Zm, rfl, aA.sub ⟨rfl, rfl, rfl, rfl, rfl, rfl, trivial⟩⟩
  exact At.exit rfl (At.drop (so sr) (Ca _ (af hM).symm _ _ _ ⟨rfl, HZ, Zm, rfl, aA.sub ⟨rfl, rfl, trivial⟩⟩))
 rintro oJ W9 WI acC ⟨rfl, My, akp, rfl, F5⟩ hM
 refine At.sub F5 ?_
 refine sg bT ?_
 refine vs 5 ?_
 refine er ?_
 obtain rfl := af hM
 exact rt Tryz.func30 (.tmp rfl (.tmp rfl (.tmp rfl .nil))) sr (hk _ _ _ ⟨(qs.trans eA), rfl, My, akp, rfl⟩)
theorem afC (x0 : Int)  {r : (List Int)} (hM : yH x0 = some r) : aJ ag 52 #[iv x0] R H (λ v R' H' => aN R R' ∧ H = H' ∧ ∃ bU, aj CZ 1 R' bU r ∧ v = bU) := by
 unfold yH at hM
 refine aJ.aX Tryz.func52 rfl (n := 15) rfl rfl λ fr cs hk => ?_
 refine sg aL ?_
 refine vs 1 ?_
 refine nx aL ?_
 refine vs 1 ?_
 refine es ?_
 refine sg aL ?_
 refine vs 1 ?_
 refine er ?_
 refine At.block ?_
 refine At.c8 hM (λ (s9 : ((List Int) × Int)) R' H' st' => R = R' ∧ ∃ Mo I0, aZ CZ 1 3 R' Mo s9.1 I0 ∧ H' = I0 ++ (H) ∧ aK st' [(0, iv x0), (3, Mo), (4, iv s9.2)]) (λ (LL : (List Int)) R' H' st' => R = R' ∧ ∃ Mn Oc, aZ CZ 1 3 R' Mn LL Oc ∧ H' = Oc ++ (H) ∧ aK st' [(3, Mn)]) 0 rfl ⟨rfl, .slice none 0 0, [], aZ.nil, rfl, aA.sub ⟨rfl, rfl, rfl, trivial⟩⟩ ?_ ?_
 rotate_right
 ·rintro s9 R37 H37 aOq ⟨rfl, Mo, I0, ZY, rfl, aqu⟩ js hM ag9 ajv
  refine At.sub aqu ?_
  refine sq ?_
  refine sg aS ?_
  refine vs 3 ?_
  refine er ?_
  refine sc hM (λ Ae hM => ?_) (λ Ae hM => ?_)
  ·refine sp ?_
   refine sq ?_
   refine At.block ?_
   refine At.rg bT ?_
   refine vs 2 ?_
   refine At.s rfl rfl (Ox.buildSlice (cells := #[_]) rfl ck rfl (by decide) cS (bf rfl rfl rfl rfl aY) rfl λ jY _ _ => ⟨_, (.put rfl), ?_⟩)
   obtain ⟨gb, oE, hM⟩ := ao hM
   refine At.s rfl rfl (Ox.append (K := CZ) (λ X => (jY, _) :: X ++ (H)) rfl rfl rfl cR Tryz.underlying25 (by simp) (.cons .id) ZY (cE.lit z0 (aG.le (aG.cons (x := s9.2) rfl rfl aG.nil) rfl) rfl) oE rfl λ aA0 agj apf => ⟨_, (.put rfl), ?_⟩)
   refine vs 1 ?_
   refine er ?_
   refine At.inBlock ?_
   refine At.rg aS ?_
   refine vs 3 ?_
   refine er ?_
   exact At.drop (so sr) (ag9 _ (af hM).symm _ _ _ ⟨rfl, aA0, agj, apf, rfl, aA.sub ⟨rfl, rfl, rfl, trivial⟩⟩)
  exact At.exit rfl (ajv _ (af hM).symm _ _ _ ⟨rfl, Mo, I0, ZY, rfl, aA.sub ⟨rfl, trivial⟩⟩)
 rintro LL aGP aET aOr ⟨rfl, Mn, Oc, aoK, rfl, aqv⟩ hM
 refine At.sub aqv ?_
 refine sg aQ ?_
 refine vs 2 ?_
 refine er ?_
 refine At.dB (H2 := H) (λ X => X ++ (H)) .id rfl aoK (λ aHT akW amI => ?_)
 obtain rfl := af hM
 exact rt Tryz.func52 (.tmp rfl .nil) sr (hk _ _ _ ⟨akW, rfl, Mn, amI, rfl⟩)
theorem Ul (x0 : aq) (x1 : (List Int)) {aC aD aH v1 : Value} (ay : aj bm 5 R aC x0.az) (aB : aj CZ 1 R aD x0.Out) (aF : aj bh 2 R aH x0.aO) (h1 : bC CZ 1 R H v1 x1) {r : aq} (hM : tL x0 x1 = some r) : aJ ag 65 #[.agg #[iv x0.aE, iv x0.aa.an, iv x0.aa.ax, aC, aD, aH], v1] R H (λ v R' H' => aN R R' ∧ H = H' ∧ ∃ dK dL dM, aj bm 5 R' dK r.az ∧ aj CZ 1 R' dL r.Out ∧ aj bh 2 R' dM r.aO ∧ v = .agg #[iv r.aE, iv r.aa.an, iv r.aa.ax, dK, dL, dM]) := by
 unfold tL at hM
 refine aJ.aX Tryz.func65 rfl (n := 29) rfl rfl λ fr cs hk => ?_
 refine sg aQ ?_
 refine bx λ jB => ?_
 refine At.s rfl rfl (Ox.alloc (cs := #[iv 0, iv 0, iv 0, .slice none 0 0, .slice none 0 0, .slice none 0 0]) rfl jP rfl λ gS _ _ => ⟨_, (.put rfl), ?_⟩)
 refine nx aS ?_
 refine lN [_, _, _, _, _, _] 0 6 aU z1 ?_
 refine At.s rfl rfl (Ox.alloc (cs := #[iv 0, iv 0, iv 0, .slice none 0 0, .slice none 0 0, .slice none 0 0]) rfl jP rfl λ gp _ _ => ⟨_, (.put rfl), ?_⟩)
 refine At.s rfl rfl (Ox.bp (cs' := #[_, _, _, _, _, _]) rfl rfl rfl aU rfl (ak rfl (ak rfl (ak rfl (ak ay.one (ak aB.one (ak aF.one aW)))))) .here rfl rfl rfl (.refl _) ?_)
 refine nx aQ ?_
 refine vs 1 ?_
 refine At.s rfl rfl (Ox.cM (cs' := #[_, _, _, _, _, _]) rfl rfl rfl eu rfl .here rfl rfl rfl (.refl _) ?_)
 refine es ?_
 refine sg aL ?_
 refine vs 1 ?_
 refine er ?_
 refine At.block ?_
 refine At.c8 hM (λ (jo : (Int × (List bW))) R' H' st' => R = R' ∧ ∃ Dp EA, aZ bh 2 47 R' Dp jo.2 EA ∧ H' = EA ++ ((gp, .cells #[iv x0.aE, iv x0.aa.an, iv x0.aa.ax, aC, aD, Dp] 28) :: (gS, .cells #[iv 0, iv 0, iv 0, .slice none 0 0, .slice none 0 0, .slice none 0 0] 28) :: (jB, .cells #[iv x0.aE, iv x0.aa.an, iv x0.aa.ax, aC, aD, aH] 28) :: H) ∧ aK st' [(1, v1), (2, .pointer (some ⟨jB, 0, none⟩)), (4, .pointer (some ⟨gS, 0, none⟩)), (5, .pointer (some ⟨gp, 0, none⟩)), (6, iv jo.1)]) (λ (vm : (List bW)) R' H' st' => R = R' ∧ ∃ Mu Oi, aZ bh 2 47 R' Mu vm Oi ∧ H' = Oi ++ ((gp, .cells #[iv x0.aE, iv x0.aa.an, iv x0.aa.ax, aC, aD, Mu] 28) :: (gS, .cells #[iv 0, iv 0, iv 0, .slice none 0 0, .slice none 0 0, .slice none 0 0] 28) :: H) ∧ aK st' [(4, .pointer (some ⟨gS, 0, none⟩)), (5, .pointer (some ⟨gp, 0, none⟩))]) 0 rfl ⟨rfl, .slice none 0 0, [], aZ.nil, rfl, aA.sub ⟨rfl, rfl, rfl, rfl, rfl, trivial⟩⟩ ?_ ?_
 rotate_right
 ·rintro jo R49 H49 azM ⟨rfl, Dp, EA, Z0, rfl, RP⟩ ym hM OR PT
  refine At.sub RP ?_
  refine sq ?_
  refine sg bn ?_
  refine vs 2 ?_
  refine lr h1 Tryz.underlying25 ?_
  refine vs 1 ?_
  refine er ?_
  refine sc hM (λ qD hM => ?_) (λ qD hM => ?_)
  ·refine sp ?_
   refine sq ?_
   refine At.block ?_
   refine At.draw (n := 14) (is := [0, 1, 2, 3, 4, 5, 6, 7, 8, 9, 10, 11, 12, 13]) (many (EA ++ ((gp, .cells #[iv x0.aE, iv x0.aa.an, iv x0.aa.ax, aC, aD, Dp] 28) :: (gS, .cells #[iv 0, iv 0, iv 0, .slice none 0 0, .slice none 0 0, .slice none 0 0] 28) :: (jB, .cells #[iv x0.aE, iv x0.aa.an, iv x0.aa.ax, aC, aD, aH] 28) :: H)) [(11, (gp, .cells #[iv x0.aE, iv x0.aa.an, iv x0.aa.ax, aC, aD, Dp] 28) :: (gS, .cells #[iv 0, iv 0, iv 0, .slice none 0 0, .slice none 0 0, .slice none 0 0] 28) :: (jB, .cells #[iv x0.aE, iv x0.aa.an, iv x0.aa.ax, aC, aD, aH] 28) :: H), (13, (gS, .cells #[iv 0, iv 0, iv 0, .slice none 0 0, .slice none 0 0, .slice none 0 0] 28) :: (jB, .cells #[iv x0.aE, iv x0.aa.an, iv x0.aa.ax, aC, aD, aH] 28) :: H)]) mixed rfl (by decide +kernel) rfl rfl ?_
   refine Any.vs 1 [0] rfl ?_
   refine ts 1 [11, 12, 13] rfl (cq rfl (cq rfl (dm (su (aP (sk (so (so sr)))))))) (su (aP (sk (so (so sr))))) (λ R' H' hR hS => Ox.bV rfl rfl eu ((aT.box (hS _ z0)).one (j := 5) rfl) rfl (.one rfl) ⟨rfl, rfl, rfl⟩) ?_
   refine Any.vs 1 [2] rfl ?_
   refine ts 3 [8, 9, 10, 11, 12, 13] rfl (cq rfl (cq rfl (dm (su (aP (so (so sr))))))) (su (aP (so (so sr)))) (λ R' H' hR hS => Ox.bV rfl rfl eu ((aT.box (hS _ z0)).one (j := 5) rfl) rfl (.one rfl) ⟨rfl, rfl, rfl⟩) ?_
   refine Any.vs 2 [4, 5] rfl ?_
   obtain ⟨jv, qK, hM⟩ := ao hM
   obtain ⟨iK, uX, hM⟩ := ao hM
   obtain ⟨iJ, qL, hM⟩ := ao hM
   obtain ⟨ahW, ayA, _, rfl, QK, Q6⟩ := h1.elem cL qK
   refine ts 6 [7, 8, 9, 10, 11, 12, 13] rfl (cq rfl (cq rfl (dm (su (aP (so (so (so sr)))))))) (su (aP (so (so (so sr))))) (λ R' H' hR hS => Ox.bq rfl rfl rfl Q6 rfl (.one rfl) ⟨rfl, rfl, rfl⟩) ?_
   refine ts 7 [8, 9, 10, 11, 12, 13] rfl (cq rfl (cq rfl (dm (su (aP (so (so (so sr)))))))) (su (aP (so (so (so sr))))) (λ R' H' hR hS => Ox.bV rfl rfl bg (((QK.le hR).sub (λ p h => hS p (pp p h))).one (j := 0) rfl) rfl (.one rfl) ⟨rfl, rfl, rfl⟩) ?_
   obtain ⟨aKb, aNa, _, rfl, al6, anX⟩ := aF.elem vr uX
   refine ts 8 [9, 10, 11, 12, 13] rfl (cq rfl (cq rfl (dm (su (aP (so (so (so sr)))))))) (su (aP (so (so (so sr))))) (λ R' H' hR hS => Ox.bq rfl rfl rfl anX rfl (.one rfl) ⟨rfl, rfl, rfl⟩) ?_
   refine ts 9 [10, 11, 12, 13] rfl (cq rfl (cq rfl (dm (su (aP (so (so (so sr)))))))) (su (aP (so (so (so sr))))) (λ R' H' hR hS => Ox.bP (vs := [_, _]) rfl rfl mW rfl ((al6.up hR).part (j := 0) (n := 2) rfl) rfl (.one rfl) ⟨rfl, rfl, rfl⟩) ?_
   refine Any.on 10 rfl rfl (aR.to (Ox.buildSlice (cells := #[_, _]) rfl o9 rfl (by decide) uj (bf rfl rfl rfl rfl aY) rfl λ Jz _ _ => ⟨_, (.put rfl), ⟨rr, (bO rfl (su (so sr))), ?_⟩⟩))
   refine Any.on 11 rfl rfl (aR.to (Ox.append (K := bh) (λ X => (Jz, _) :: X ++ ((gp, _) :: (gS, _) :: (jB, _) :: H)) rfl rfl rfl n8 Tryz.underlying26 (by simp) (.cons .id) Z0 (cE.lit z0 (aG.le (aG.cons (x := iK) rfl rfl aG.nil) rfl) rfl) qL rfl λ MT I9 Cs => ⟨_, (.put rfl), ⟨rr, (bO rfl (su (so (aP sr)))), ?_⟩⟩))
   refine Any.vs 1 [12] rfl ?_
   refine Any.on 13 rfl rfl (aR.to (Ox.cM (cs' := #[_, _, _, _, _, _]) rfl rfl rfl eu Cs.one (.there (.skip .here)) rfl rfl rfl (.refl _) ⟨rr, (bO rfl (su (so (aP (so sr))))), ?_⟩))
   refine Any.done ?_
   refine At.inBlock ?_
   refine At.rg aS ?_
   refine vs 3 ?_
   refine er ?_
   exact At.drop (so sr) (OR _ (af hM).symm _ _ _ ⟨rfl, MT, I9, Cs, rfl, aA.sub ⟨rfl, rfl, rfl, rfl, rfl, trivial⟩⟩)
  exact At.exit rfl (At.drop (eD (sk (sk (so sr)))) (PT _ (af hM).symm _ _ _ ⟨rfl, Dp, EA, Z0, rfl, aA.sub ⟨rfl, rfl, trivial⟩⟩))
 rintro vm agB af2 azN ⟨rfl, Mu, Oi, ZZ, rfl, RQ⟩ hM
 refine At.sub RQ ?_
 refine sg aQ ?_
 refine lN [_, _, _, _, _, _] 0 6 aU (List.mem_append_right _ z0) ?_
 refine At.s rfl rfl (Ox.bp (cs' := #[_, _, _, _, _, _]) rfl rfl rfl aU rfl (ak rfl (ak rfl (ak rfl (ak ay.one (ak aB.one (ak ZZ.one aW)))))) (.skip (.there .here)) rfl rfl rfl (.refl _) ?_)
 refine er ?_
 refine At.dB (H2 := (gp, _) :: (gS, _) :: H) (λ X => X ++ ((gp, _) :: (gS, _) :: H)) .id rfl ZZ (λ agK Fv QX => ?_)
 replace ay := ay.mono Fv
 replace aB := aB.mono Fv
 obtain rfl := af hM
 exact rt Tryz.func65 (.agg rfl aU rfl (aT.box z1) .nil) (so (so sr)) (hk _ _ _ ⟨Fv, rfl, aC, aD, Mu, ay, aB, QX, rfl⟩)
theorem Wl (x0 : (List Int)) (x1 : (List Int)) {v0 v1 : Value} (h0 : bC CZ 1 R H v0 x0) (h1 : bC CZ 1 R H v1 x1) {r : Bool} (hM : yI x0 x1 = some r) : aJ ag 67 #[v0, v1] R H (λ v R' H' => R = R' ∧ H = H' ∧ v = .bool r) := by
 unfold yI at hM
 refine aJ.aX Tryz.func67 rfl (n := 22) rfl rfl λ fr cs hk => ?_
 refine sg aL ?_
 refine vs 1 ?_
 refine nx UK ?_
 refine vs 1 ?_
 refine lr h0 Tryz.underlying25 ?_
 refine vs 1 ?_
 refine lr h1 Tryz.underlying25 ?_
 refine vs 2 ?_
 refine bA hM (λ mB hM => ?_) (λ mB hM => ?_)
 ·refine At.kn 10 mB ?_
  refine vs 12 ?_
  refine er ?_
  obtain rfl := af hM
  exact rt Tryz.func67 (.tmp rfl .nil) sr (hk _ _ _ ⟨rfl, rfl, rfl⟩)
 refine At.kn 10 mB ?_
 refine vs 1 ?_
 refine lr h0 Tryz.underlying25 ?_
 refine vs 1 ?_
 refine lr h1 Tryz.underlying25 ?_
 refine vs 2 ?_
 refine bA hM (λ jH hM => ?_) (λ jH hM => ?_)
 ·refine At.kn 16 jH ?_
  refine vs 2 ?_
  obtain ⟨fQ, mD, hM⟩ := ao hM
  refine At.cv PG (Uk x0 x1 (h0.sub pp) (h1.sub pp) mD) ?_
  rintro _ _ _ ⟨rfl, rfl, rfl⟩
  refine vs 3 ?_
  refine er ?_
  obtain rfl := af hM
  exact rt Tryz.func67 (.tmp rfl .nil) sr (hk _ _ _ ⟨rfl, rfl, rfl⟩)
 refine At.kn 16 jH ?_
 refine vs 6 ?_
 refine er ?_
 obtain rfl := af hM
 exact rt Tryz.func67 (.tmp rfl .nil) sr (hk _ _ _ ⟨rfl, rfl, rfl⟩)
theorem awO (x0 : Int) (x1 : Int)  {r : (List (List Int))} (hM : Nh x0 x1 = some r) : aJ ag 115 #[iv x0, iv x1] R H (λ v R' H' => aN R R' ∧ H = H' ∧ ∃ bU, aj (ef CZ 1) 1 R' bU r ∧ v = bU) := by
 unfold Nh at hM
 refine aJ.aX Tryz.func115 rfl (n := 42) rfl rfl λ fr cs hk => ?_
 refine sg aL ?_
 refine vs 1 ?_
 refine nx aQ ?_
 refine At.s rfl rfl (Ox.buildSlice (cells := #[_]) rfl si rfl (by decide) r9 (bf rfl rfl rfl rfl aY) rfl λ Jw _ _ => ⟨_, (.put rfl), ?_⟩)
 refine vs 1 ?_
 refine es ?_
 refine sg aL ?_
 refine vs 1 ?_
 refine er ?_
 refine At.block ?_
 refine At.c8 hM (λ (lJ : ((List (List Int)) × Int)) R' H' st' => aN R R' ∧ ∃ HQ Et, aZ (ef CZ 1) 1 25 R' HQ lJ.1 Et ∧ H' = Et ++ (H) ∧ aK st' [(0, iv x0), (1, iv x1), (5, HQ), (6, iv lJ.2)]) (λ (IJ : (List (List Int))) R' H' st' => aN R R' ∧ ∃ Mj Oa, aZ (ef CZ 1) 1 25 R' Mj IJ Oa ∧ H' = Oa ++ (H) ∧ aK st' [(5, Mj)]) 0 rfl ⟨rr, .slice (some ⟨Jw, 0, none⟩) 1 1, [(Jw, _)], (aZ.lit (aG.le (aG.cons (x := []) ⟨_, rfl, aj.nil⟩ rfl aG.nil) rfl) rfl), rfl, aA.sub ⟨rfl, rfl, rfl, rfl, trivial⟩⟩ ?_ ?_
 rotate_right
 ·rintro lJ WX aEo aNR ⟨Zw, HQ, Et, Rj, rfl, apV⟩ vU hM agY aji
  refine At.sub apV ?_
  refine sq ?_
  refine sg aS ?_
  refine vs 3 ?_
  refine er ?_
  refine sc hM (λ ar6 hM => ?_) (λ ar6 hM => ?_)
  ·refine sp ?_
   refine sq ?_
   refine At.block ?_
   refine sg aS ?_
   refine vs 1 ?_
   refine At.s rfl rfl (Ox.u0 rfl rfl Rj Tryz.underlying135 rfl (.put rfl) ?_)
   refine vs 1 ?_
   refine nx aL ?_
   refine vs 1 ?_
   refine er ?_
   refine At.block ?_
   refine At.c8 hM (λ (kQ : ((List (List Int)) × Int)) R' H' st' => aN WX R' ∧ ∃ HR tY, aZ (ef CZ 1) 1 25 R' HR kQ.1 tY ∧ H' = tY ++ (H) ∧ aK st' [(0, iv x0), (1, iv x1), (5, HR), (6, iv lJ.2), (7, iv (lJ.1.length : Int)), (8, iv kQ.2)]) (λ (IK : (List (List Int))) R' H' st' => aN WX R' ∧ ∃ Ml IY, aZ (ef CZ 1) 1 25 R' Ml IK IY ∧ H' = IY ++ (H) ∧ aK st' [(0, iv x0), (1, iv x1), (5, Ml), (6, iv lJ.2)]) 2 rfl ⟨rr, HQ, Et, Rj, rfl, aA.sub ⟨rfl, rfl, rfl, rfl, rfl, rfl, trivial⟩⟩ ?_ ?_
   rotate_right
   ·rintro kQ aGz aEE aN9 ⟨Qc, HR, tY, zN, rfl, aqd⟩ aRg hM XC ajo
    refine At.sub aqd ?_
    refine sq ?_
    refine sg aS ?_
    refine vs 3 ?_
    refine er ?_
    refine sc hM (λ asc hM => ?_) (λ asc hM => ?_)
    ·refine sp ?_
     refine sq ?_
     refine At.block ?_
     refine sg dY ?_
     refine vs 2 ?_
     obtain ⟨V4, at6, hM⟩ := ao hM
     obtain ⟨aJJ, aMP, _, ⟨aP4, rfl, at7⟩, alM, anz⟩ := (zN.rd (λ _ h => (List.mem_append_left _ h))).elem jL at6
     refine At.s rfl rfl (Ox.bq rfl rfl rfl anz rfl (.put rfl) ?_)
     refine At.ld bL ((alM.sub pp).one (j := 0) rfl) ?_
     refine ls at7 Tryz.underlying25 ?_
     refine vs 2 ?_
     refine er ?_
     refine sc hM (λ asd hM => ?_) (λ asd hM => ?_)
     ·refine At.rg BL ?_
      refine vs 1 ?_
      refine At.s rfl rfl (Ox.buildSlice (cells := #[]) rfl ck rfl (by decide) p7 aY rfl λ aI8 _ _ => ⟨_, (.put rfl), ?_⟩)
      refine vs 2 ?_
      obtain ⟨V5, aua, hM⟩ := ao hM
      obtain ⟨V6, auc, hM⟩ := ao hM
      obtain ⟨NQ, aud, hM⟩ := ao hM
      obtain ⟨V7, auf, hM⟩ := ao hM
      obtain ⟨aJK, aMQ, _, ⟨aP5, rfl, aub⟩, QF, anA⟩ := (zN.rd (λ _ h => (.tail _ (List.mem_append_left _ h)))).elem jL aua
      refine At.s rfl rfl (Ox.bq rfl rfl rfl anA rfl (.put rfl) ?_)
      refine At.ld bL ((QF.sub pp).one (j := 0) rfl) ?_
      refine At.s rfl rfl (Ox.append (K := CZ) (λ X => X ++ (tY ++ (H))) rfl rfl rfl cR Tryz.underlying25 (by simp) .id (aZ.lit (aG.le aG.nil rfl) rfl) aub.arg auc rfl λ aP6 aFP apa => ⟨_, (.put rfl), ?_⟩)
      refine vs 1 ?_
      refine At.s rfl rfl (Ox.buildSlice (cells := #[_]) rfl ck rfl (by decide) cS (bf rfl rfl rfl rfl aY) rfl λ Jx _ _ => ⟨_, (.put rfl), ?_⟩)
      refine At.s rfl rfl (Ox.append (K := CZ) (λ X => (Jx, _) :: X ++ (tY ++ (H))) rfl rfl rfl cR Tryz.underlying25 (by simp) (.cons .id) apa (cE.lit z0 (aG.le (aG.cons (x := lJ.2) rfl rfl aG.nil) rfl) rfl) aud rfl λ aP7 aFQ Z9 => ⟨_, (.put rfl), ?_⟩)
      refine At.dB (H2 := (Jx, _) :: tY ++ (H)) (λ X => (Jx, _) :: X ++ (tY ++ (H))) (.cons .id) rfl Z9 (λ aHN Ql amC => ?_)
      replace QF := QF.le Ql
      replace zN := zN.mono Ql
      refine At.s rfl rfl (Ox.buildSlice (cells := #[_]) rfl si rfl (by decide) r9 (bf rfl Z9.cells rfl rfl aY) rfl λ ahC _ _ => ⟨_, (.put rfl), ?_⟩)
      refine At.s rfl rfl (Ox.append (K := (ef CZ 1)) (λ X => (ahC, _) :: (Jx, _) :: X ++ (H)) rfl rfl rfl zd Tryz.underlying135 (by simp) (.cons (.cons .id)) zN (cE.lit z0 (aG.le (aG.cons (x := NQ) ⟨_, rfl, amC⟩ rfl aG.nil) rfl) rfl) auf rfl λ aAy agc apb => ⟨_, (.put rfl), ?_⟩)
      refine vs 1 ?_
      refine er ?_
      refine At.inBlock ?_
      refine At.rg aS ?_
      refine vs 3 ?_
      refine er ?_
      exact At.drop (so (so sr)) (XC _ (af hM).symm _ _ _ ⟨(Qc.trans Ql), aAy, agc, apb, rfl, aA.sub ⟨rfl, rfl, rfl, rfl, rfl, rfl, trivial⟩⟩)
     refine sp ?_
     refine At.inBlock ?_
     refine At.rg aS ?_
     refine vs 3 ?_
     refine er ?_
     exact XC _ (af hM).symm _ _ _ ⟨Qc, HR, tY, zN, rfl, aA.sub ⟨rfl, rfl, rfl, rfl, rfl, rfl, trivial⟩⟩
    exact At.exit rfl (ajo _ (af hM).symm _ _ _ ⟨Qc, HR, tY, zN, rfl, aA.sub ⟨rfl, rfl, rfl, rfl, trivial⟩⟩)
   rintro IK aGA aEF aOa ⟨akC, Ml, IY, aoH, rfl, aqe⟩ hM
   refine At.sub aqe ?_
   refine At.inBlock ?_
   refine At.rg aS ?_
   refine vs 3 ?_
   refine er ?_
   exact agY _ (af hM).symm _ _ _ ⟨(Zw.trans akC), Ml, IY, aoH, rfl, aA.sub ⟨rfl, rfl, rfl, rfl, trivial⟩⟩
  exact At.exit rfl (aji _ (af hM).symm _ _ _ ⟨Zw, HQ, Et, Rj, rfl, aA.sub ⟨rfl, trivial⟩⟩)
 rintro IJ aGk aEp aNS ⟨akB, Mj, Oa, aoF, rfl, apW⟩ hM
 refine At.sub apW ?_
 refine sg aQ ?_
 refine vs 2 ?_
 refine er ?_
 refine At.dB (H2 := H) (λ X => X ++ (H)) .id rfl aoF (λ aHO akT amD => ?_)
 obtain rfl := af hM
 exact rt Tryz.func115 (.tmp rfl .nil) sr (hk _ _ _ ⟨(akB.trans akT), rfl, Mj, amD, rfl⟩)
theorem aDI (x0 : aq) {aC aD aH : Value} (ay : aj bm 5 R aC x0.az) (aB : aj CZ 1 R aD x0.Out) (aF : aj bh 2 R aH x0.aO) {r : ((List Int) × Int)} (hM : m32 x0 = some r) : aJ ag 32 #[.agg #[iv x0.aE, iv x0.aa.an, iv x0.aa.ax, aC, aD, aH]] R H (λ v R' H' => aN R R' ∧ H = H' ∧ ∃ bU, aj CZ 1 R' bU r.1 ∧ v = .tuple #[bU, iv r.2]) := by
 unfold m32 at hM
 refine aJ.aX Tryz.func32 rfl (n := 59) rfl rfl λ fr cs hk => ?_
 refine sg aS ?_
 refine bx λ JB => ?_
 refine vs 2 ?_
 refine es ?_
 refine sg aS ?_
 refine lN [_, _, _, _, _, _] 0 6 aU z0 ?_
 obtain ⟨ij, CB, hM⟩ := ao hM
 refine At.cv zn (AY x0 ay aB aF CB) ?_
 rintro _ _ _ ⟨rfl, rfl, rfl⟩
 refine vs 1 ?_
 refine nx aQ ?_
 refine vs 2 ?_
 refine er ?_
 refine sc hM (λ Nn hM => ?_) (λ Nn hM => ?_)
 ·refine sg aS ?_
  refine vs 3 ?_
  refine er ?_
  obtain rfl := af hM
  exact rt Tryz.func32 (.tmp rfl (.tmp rfl .nil)) (so sr) (hk _ _ _ ⟨(rr), rfl, .slice none 0 0, aj.nil, rfl⟩)
 refine sp ?_
 refine sq ?_
 refine sg bn ?_
 refine lN [_, _, _, _, _, _] 0 6 aU z0 ?_
 obtain ⟨kV, Bw, hM⟩ := ao hM
 refine At.cv JV (K8 x0 ay aB aF Bw) ?_
 rintro aQ5 ae5 _ ⟨nS, rfl, _, avG, rfl⟩
 replace ay := ay.mono nS
 replace aB := aB.mono nS
 replace aF := aF.mono nS
 refine ls avG Tryz.underlying115 ?_
 refine vs 1 ?_
 refine er ?_
 refine sc hM (λ SZ hM => ?_) (λ SZ hM => ?_)
 ·refine sg aQ ?_
  refine vs 2 ?_
  refine er ?_
  obtain rfl := af hM
  exact rt Tryz.func32 (.tmp rfl (.tmp rfl .nil)) (so sr) (hk _ _ _ ⟨nS, rfl, .slice none 0 0, aj.nil, rfl⟩)
 refine sp ?_
 refine sq ?_
 refine sg bT ?_
 refine lN [_, _, _, _, _, _] 0 6 aU z0 ?_
 obtain ⟨vK, GC, hM⟩ := ao hM
 refine At.cv PJ (Ul x0 [] ay aB aF aj.nil.rd GC) ?_
 rintro _ aH7 _ ⟨Fw, rfl, aPI, aPJ, aPK, asT, asU, asV, rfl⟩
 replace ay := ay.mono Fw
 replace aB := aB.mono Fw
 replace aF := aF.mono Fw
 obtain ⟨DM, S1, hM⟩ := ao hM
 refine At.cv JV (K8 vK asT asU asV S1) ?_
 rintro aPM agL _ ⟨uA, rfl, _, asW, rfl⟩
 replace ay := ay.mono uA
 replace aB := aB.mono uA
 replace aF := aF.mono uA
 refine ls asW Tryz.underlying115 ?_
 refine vs 1 ?_
 refine er ?_
 refine sc hM (λ yp hM => ?_) (λ yp hM => ?_)
 ·refine sg aQ ?_
  refine vs 2 ?_
  refine er ?_
  obtain rfl := af hM
  exact rt Tryz.func32 (.tmp rfl (.tmp rfl .nil)) (so sr) (hk _ _ _ ⟨((nS.trans Fw).trans uA), rfl, .slice none 0 0, aj.nil, rfl⟩)
 refine sp ?_
 refine sg bn ?_
 refine vs 1 ?_
 refine ld 5 eu z0 ?_
 refine ls aF Tryz.underlying26 ?_
 refine vs 1 ?_
 refine nx dY ?_
 refine vs 1 ?_
 obtain ⟨rR, Nq, hM⟩ := ao hM
 refine At.cv aff (afC (x0.aO.length : Int)  Nq) ?_
 rintro aAo aC4 _ ⟨Bs, rfl, _, S3, rfl⟩
 replace ay := ay.mono Bs
 replace aB := aB.mono Bs
 replace aF := aF.mono Bs
 refine vs 2 ?_
 obtain ⟨oW, aar, hM⟩ := ao hM
 refine At.cv aih (awO (x0.aO.length : Int) (x0.aO.length : Int)  aar) ?_
 rintro ac4 VC _ ⟨rQ, rfl, _, uQ, rfl⟩
 replace ay := ay.mono rQ
 replace aB := aB.mono rQ
 replace aF := aF.mono rQ
 replace S3 := S3.mono rQ
 refine vs 2 ?_
 refine es ?_
 refine sg aL ?_
 refine vs 1 ?_
 refine er ?_
 refine At.block ?_
 refine At.c8 hM (λ (lE : ((List Int) × Int)) R' H' st' => aN VC R' ∧ ∃ Dn, aj CZ 1 R' Dn lE.1 ∧ H' = (JB, .cells #[iv x0.aE, iv x0.aa.an, iv x0.aa.ax, aC, aD, aH] 28) :: H ∧ aK st' [(1, .pointer (some ⟨JB, 0, none⟩)), (6, Dn), (7, ac4), (8, iv lE.2)]) (λ (Bt : (List Int)) R' H' st' => aN VC R' ∧ ∃ Mh, aj CZ 1 R' Mh Bt ∧ H = H' ∧ aK st' [(6, Mh)]) 0 rfl ⟨rr, aAo, S3, rfl, aA.sub ⟨rfl, rfl, rfl, rfl, trivial⟩⟩ ?_ ?_
 rotate_right
 ·rintro lE agy aEa aND ⟨zw, Dn, Cc, rfl, apH⟩ N2 hM Xy adX
  refine At.sub apH ?_
  replace ay := ay.mono zw
  replace aB := aB.mono zw
  replace aF := aF.mono zw
  replace uQ := uQ.mono zw
  refine sq ?_
  refine sg bn ?_
  refine vs 2 ?_
  refine ls uQ Tryz.underlying135 ?_
  refine vs 1 ?_
  refine er ?_
  refine sc hM (λ Cw hM => ?_) (λ Cw hM => ?_)
  ·refine sp ?_
   refine sq ?_
   refine At.block ?_
   refine sq ?_
   refine At.gR hM (λ (LC : Bool) R' H' st' => aN agy R' ∧ H' = (JB, .cells #[iv x0.aE, iv x0.aa.an, iv x0.aa.ax, aC, aD, aH] 28) :: H ∧ aK st' [(1, .pointer (some ⟨JB, 0, none⟩)), (6, Dn), (7, ac4), (8, iv lE.2), (53, .bool LC)])  ?_ ?_
   rotate_right
   ·intro yR hM Y0
    refine At.dw Wq mixed ?_
    refine Any.vs 2 [0, 1] rfl ?_
    obtain ⟨BJ, VX, hM⟩ := ao hM
    obtain ⟨Eo, VY, hM⟩ := ao hM
    refine bA hM (λ R8 hM => ?_) (λ R8 hM => ?_)
    ·obtain ⟨Vf, as9, hM⟩ := ao hM
     obtain ⟨Vg, atb, hM⟩ := ao hM
     obtain ⟨Vh, atf, hM⟩ := ao hM
     obtain ⟨ahP, ayv, _, ⟨aAq, rfl, S7⟩, zE, Q1⟩ := uQ.elem jL VX
     refine Any.tk 2 rfl pp (λ R' H' hR hS => Ox.bq rfl rfl rfl Q1 rfl (.one rfl) ⟨rfl, rfl, rfl⟩) ?_
     refine Any.tk 3 rfl pp (λ R' H' hR hS => Ox.bV rfl rfl bL ((zE.up hR).one (j := 0) rfl) rfl (.one rfl) ⟨rfl, rfl, rfl⟩) ?_
     refine Any.vs 1 [4] rfl ?_
     refine Any.cv 5 Wb (Wl BJ lE.1 S7.rd Cc.rd VY) ?_
     rintro _ _ _ ⟨rfl, rfl, rfl⟩
     refine kp ?_
     refine Any.vs 1 [6] rfl ?_
     refine Any.known (t := 43) rfl R8 ?_
     refine tN 7 [_, _, _, _, _, _] 0 6 aU z0 ?_
     refine Any.vs 2 [8, 9] rfl ?_
     obtain ⟨aJr, aMx, _, ⟨aPO, rfl, ata⟩, FI, ang⟩ := uQ.elem jL as9
     refine Any.tk 10 rfl pp (λ R' H' hR hS => Ox.bq rfl rfl rfl ang rfl (.one rfl) ⟨rfl, rfl, rfl⟩) ?_
     refine Any.tk 11 rfl pp (λ R' H' hR hS => Ox.bV rfl rfl bL ((FI.up hR).one (j := 0) rfl) rfl (.one rfl) ⟨rfl, rfl, rfl⟩) ?_
     refine Any.cv 12 PJ (Ul x0 Vf ay aB aF ata.rd atb) ?_
     rintro _ aIb _ ⟨Ko, rfl, aPP, aPQ, aPR, atc, atd, ate, rfl⟩
     replace zE := zE.up (H := []) Ko
     replace FI := FI.up (H := []) Ko
     refine ⟨Ko, ka, ?_⟩
     refine Any.cv 13 JV (K8 Vg atc atd ate atf) ?_
     rintro aPS aIc _ ⟨Kp, rfl, _, atg, rfl⟩
     replace zE := zE.up (H := []) Kp
     replace FI := FI.up (H := []) Kp
     refine ⟨Kp, ka, ?_⟩
     refine Any.tk 14 rfl pp (λ R' H' hR hS => Ox.tP (K := oY) (k := 2) (xs := Vh) rfl rfl (atg.mono hR) Tryz.underlying115 rfl (.one rfl) ⟨rfl, rfl, rfl⟩) ?_
     refine Any.vs 2 [15, 16] rfl ?_
     refine Any.done ?_
     exact Y0 _ (af hM).symm _ _ _ ⟨(Ko.trans Kp), rfl, aA.sub ⟨rfl, rfl, rfl, rfl, rfl, trivial⟩⟩
    obtain ⟨ahP, ayv, _, ⟨aAq, rfl, S7⟩, zE, Q1⟩ := uQ.elem jL VX
    refine Any.tk 2 rfl pp (λ R' H' hR hS => Ox.bq rfl rfl rfl Q1 rfl (.one rfl) ⟨rfl, rfl, rfl⟩) ?_
    refine Any.tk 3 rfl pp (λ R' H' hR hS => Ox.bV rfl rfl bL ((zE.up hR).one (j := 0) rfl) rfl (.one rfl) ⟨rfl, rfl, rfl⟩) ?_
    refine Any.vs 1 [4] rfl ?_
    refine Any.cv 5 Wb (Wl BJ lE.1 S7.rd Cc.rd VY) ?_
    rintro _ _ _ ⟨rfl, rfl, rfl⟩
    refine kp ?_
    refine Any.vs 1 [6] rfl ?_
    refine Any.known (t := 43) rfl R8 ?_
    refine Any.vs 10 [7, 8, 9, 10, 11, 12, 13, 14, 15, 16] rfl ?_
    refine Any.done ?_
    exact Y0 _ (af hM).symm _ _ _ ⟨(rr), rfl, aA.sub ⟨rfl, rfl, rfl, rfl, rfl, trivial⟩⟩
   rintro LC aGf aEj aNM ⟨Kc, rfl, apQ⟩ hM
   refine At.sub apQ ?_
   replace Cc := Cc.mono Kc
   replace uQ := uQ.mono Kc
   refine sc hM (λ arV hM => ?_) (λ arV hM => ?_)
   ·refine At.rg bT ?_
    refine vs 2 ?_
    obtain ⟨adu, ath, hM⟩ := ao hM
    obtain ⟨aJs, aMy, _, ⟨aAr, rfl, ati⟩, alv, anh⟩ := uQ.elem jL ath
    refine At.s rfl rfl (Ox.bq rfl rfl rfl anh rfl (.put rfl) ?_)
    refine At.ld bL (alv.any.one (j := 0) rfl) ?_
    refine vs 1 ?_
    refine er ?_
    refine At.inBlock ?_
    refine At.rg aS ?_
    refine vs 3 ?_
    refine er ?_
    exact Xy _ (af hM).symm _ _ _ ⟨(zw.trans Kc), aAr, ati, rfl, aA.sub ⟨rfl, rfl, rfl, rfl, trivial⟩⟩
   refine sp ?_
   refine At.inBlock ?_
   refine At.rg aS ?_
   refine vs 3 ?_
   refine er ?_
   exact Xy _ (af hM).symm _ _ _ ⟨(zw.trans Kc), Dn, Cc, rfl, aA.sub ⟨rfl, rfl, rfl, rfl, trivial⟩⟩
  exact At.exit rfl (At.drop (so sr) (adX _ (af hM).symm _ _ _ ⟨zw, Dn, Cc, rfl, aA.sub ⟨rfl, trivial⟩⟩))
 rintro Bt aC1 aCY aDZ ⟨akz, Mh, ako, rfl, aeu⟩ hM
 refine At.sub aeu ?_
 refine sg aS ?_
 refine vs 3 ?_
 refine er ?_
 obtain rfl := af hM
 exact rt Tryz.func32 (.tmp rfl (.tmp rfl .nil)) sr (hk _ _ _ ⟨(((((nS.trans Fw).trans uA).trans Bs).trans rQ).trans akz), rfl, Mh, ako, rfl⟩)
theorem awP (x0 : (List cB)) (x1 : Int) {v0 : Value} (h0 : bC oY 2 R H v0 x0) {r : Int} (hM : Ny x0 x1 = some r) : aJ ag 116 #[v0, iv x1] R H (λ v R' H' => R = R' ∧ H = H' ∧ v = iv r) := by
 unfold Ny at hM
 refine aJ.aX Tryz.func116 rfl (n := 44) rfl rfl λ fr cs hk => ?_
 refine sg aL ?_
 refine vs 1 ?_
 refine nx aL ?_
 refine vs 1 ?_
 refine es ?_
 refine sg aL ?_
 refine vs 1 ?_
 refine er ?_
 refine At.block ?_
 refine At.c8 hM (λ (nE : (Int × Int)) R' H' st' => R = R' ∧ H = H' ∧ aK st' [(0, v0), (1, iv x1), (5, iv nE.1), (6, iv nE.2)]) (λ (vi : Int) R' H' st' => R = R' ∧ H = H' ∧ aK st' [(5, iv vi)]) 0 rfl ⟨rfl, rfl, aA.sub ⟨rfl, rfl, rfl, rfl, trivial⟩⟩ ?_ ?_
 rotate_right
 ·rintro nE aF6 aD9 aNC ⟨rfl, rfl, apG⟩ rR hM agT J3
  refine At.sub apG ?_
  refine sq ?_
  refine sg bn ?_
  refine vs 2 ?_
  refine lr h0 Tryz.underlying115 ?_
  refine vs 1 ?_
  refine er ?_
  refine sc hM (λ aan hM => ?_) (λ aan hM => ?_)
  ·refine sp ?_
   refine sq ?_
   refine At.block ?_
   refine sg aL ?_
   refine vs 1 ?_
   refine es ?_
   refine sg aL ?_
   refine vs 1 ?_
   refine er ?_
   refine At.block ?_
   refine At.c8 hM (λ (qY : (Int × Int)) R' H' st' => R = R' ∧ H = H' ∧ aK st' [(0, v0), (1, iv x1), (5, iv nE.1), (6, iv nE.2), (7, iv qY.1), (8, iv qY.2)]) (λ (HE : Int) R' H' st' => R = R' ∧ H = H' ∧ aK st' [(0, v0), (1, iv x1), (5, iv nE.1), (6, iv nE.2), (7, iv HE)]) 2 rfl ⟨rfl, rfl, aA.sub ⟨rfl, rfl, rfl, rfl, rfl, rfl, trivial⟩⟩ ?_ ?_
   rotate_right
   ·rintro qY aGl aEq aNT ⟨rfl, rfl, apX⟩ aRb hM XB ajj
    refine At.sub apX ?_
    refine sq ?_
    refine sg bn ?_
    refine vs 2 ?_
    refine lr h0 Tryz.underlying115 ?_
    refine vs 1 ?_
    refine er ?_
    refine sc hM (λ arW hM => ?_) (λ arW hM => ?_)
    ·refine sp ?_
     refine sq ?_
     refine At.block ?_
     refine sq ?_
     refine At.dw Wq mixed ?_
     refine Any.vs 2 [0, 1] rfl ?_
     obtain ⟨adw, atu, hM⟩ := ao hM
     obtain ⟨tC, S8, hM⟩ := ao hM
     obtain ⟨tD, S9, hM⟩ := ao hM
     obtain ⟨adx, atx, hM⟩ := ao hM
     obtain ⟨aJv, aMB, _, ⟨aPW, atv, rfl⟩, aly, ank⟩ := h0.elem L8 atu
     refine Any.tk 2 rfl pp (λ R' H' hR hS => Ox.bq rfl rfl rfl ank rfl (.one rfl) ⟨rfl, rfl, rfl⟩) ?_
     refine Any.vs 1 [3] rfl ?_
     refine Any.tk 4 rfl pp (λ R' H' hR hS => Ox.bV rfl rfl bL (((aly.le hR).sub (λ p h => hS p (pp p h))).one (j := 1) rfl) rfl (.one rfl) ⟨rfl, rfl, rfl⟩) ?_
     refine Any.vs 1 [5] rfl ?_
     obtain ⟨aJw, aMC, _, rfl, alz, anl⟩ := atv.elem cL S8
     refine Any.tk 6 rfl pp (λ R' H' hR hS => Ox.bq rfl rfl rfl anl rfl (.one rfl) ⟨rfl, rfl, rfl⟩) ?_
     refine Any.tk 7 rfl pp (λ R' H' hR hS => Ox.bV rfl rfl bg ((alz.up hR).one (j := 0) rfl) rfl (.one rfl) ⟨rfl, rfl, rfl⟩) ?_
     refine Any.vs 2 [8, 9] rfl ?_
     obtain ⟨aJx, aMD, _, ⟨aPX, atw, rfl⟩, alA, anm⟩ := h0.elem L8 S9
     refine Any.tk 10 rfl pp (λ R' H' hR hS => Ox.bq rfl rfl rfl anm rfl (.one rfl) ⟨rfl, rfl, rfl⟩) ?_
     refine Any.vs 1 [11] rfl ?_
     refine Any.tk 12 rfl pp (λ R' H' hR hS => Ox.bV rfl rfl bL (((alA.le hR).sub (λ p h => hS p (pp p h))).one (j := 1) rfl) rfl (.one rfl) ⟨rfl, rfl, rfl⟩) ?_
     refine Any.vs 1 [13] rfl ?_
     obtain ⟨aJy, aME, _, rfl, alB, ann⟩ := atw.elem cL atx
     refine Any.tk 14 rfl pp (λ R' H' hR hS => Ox.bq rfl rfl rfl ann rfl (.one rfl) ⟨rfl, rfl, rfl⟩) ?_
     refine Any.tk 15 rfl pp (λ R' H' hR hS => Ox.bV rfl rfl bg ((alB.up hR).one (j := 0) rfl) rfl (.one rfl) ⟨rfl, rfl, rfl⟩) ?_
     refine Any.vs 1 [16] rfl ?_
     refine Any.done ?_
     refine sc hM (λ arX hM => ?_) (λ arX hM => ?_)
     ·refine At.rg aS ?_
      refine vs 3 ?_
      refine er ?_
      refine At.inBlock ?_
      refine At.rg aS ?_
      refine vs 3 ?_
      refine er ?_
      exact XB _ (af hM).symm _ _ _ ⟨rfl, rfl, aA.sub ⟨rfl, rfl, rfl, rfl, rfl, rfl, trivial⟩⟩
     refine sp ?_
     refine At.inBlock ?_
     refine At.rg aS ?_
     refine vs 3 ?_
     refine er ?_
     exact XB _ (af hM).symm _ _ _ ⟨rfl, rfl, aA.sub ⟨rfl, rfl, rfl, rfl, rfl, rfl, trivial⟩⟩
    exact At.exit rfl (ajj _ (af hM).symm _ _ _ ⟨rfl, rfl, aA.sub ⟨rfl, rfl, rfl, rfl, rfl, trivial⟩⟩)
   rintro HE aGm aEr aNU ⟨rfl, rfl, apY⟩ hM
   refine At.sub apY ?_
   refine At.rg bn ?_
   refine vs 2 ?_
   refine At.s rfl rfl (Ox.max (a := nE.1) (l := [HE]) rfl rfl rfl (.put rfl) ?_)
   refine vs 1 ?_
   refine er ?_
   refine At.inBlock ?_
   refine At.rg aS ?_
   refine vs 3 ?_
   refine er ?_
   exact agT _ (af hM).symm _ _ _ ⟨rfl, rfl, aA.sub ⟨rfl, rfl, rfl, rfl, trivial⟩⟩
  exact At.exit rfl (J3 _ (af hM).symm _ _ _ ⟨rfl, rfl, aA.sub ⟨rfl, trivial⟩⟩)
 rintro vi agx afS azE ⟨rfl, rfl, RH⟩ hM
 refine At.sub RH ?_
 refine sg aQ ?_
 refine vs 2 ?_
 refine er ?_
 obtain rfl := af hM
 exact rt Tryz.func116 (.tmp rfl .nil) sr (hk _ _ _ ⟨rfl, rfl, rfl⟩)
theorem aDJ (x0 : aq) {aC aD aH : Value} (ay : aj bm 5 R aC x0.az) (aB : aj CZ 1 R aD x0.Out) (aF : aj bh 2 R aH x0.aO) {r : (Int × Int × Int)} (hM : NF x0 = some r) : aJ ag 34 #[.agg #[iv x0.aE, iv x0.aa.an, iv x0.aa.ax, aC, aD, aH]] R H (λ v R' H' => aN R R' ∧ H = H' ∧ v = .tuple #[iv r.1, iv r.2.1, iv r.2.2]) := by
 unfold NF at hM
 refine aJ.aX Tryz.func34 rfl (n := 38) rfl rfl λ fr cs hk => ?_
 refine sg bn ?_
 refine bx λ o7 => ?_
 refine vs 3 ?_
 refine nx dY ?_
 refine lN [_, _, _, _, _, _] 0 6 aU z0 ?_
 obtain ⟨fC, sU, hM⟩ := ao hM
 refine At.cv zo (A0 x0 0 ay aB aF sU) ?_
 rintro _ OM _ ⟨qq, rfl, aAS, aaO, rfl⟩
 replace ay := ay.mono qq
 refine vs 5 ?_
 refine es ?_
 refine sg aQ ?_
 refine vs 2 ?_
 refine er ?_
 refine sc hM (λ Gk hM => ?_) (λ Gk hM => ?_)
 ·refine sg bn ?_
  refine vs 4 ?_
  refine er ?_
  obtain rfl := af hM
  exact rt Tryz.func34 (.tmp rfl (.tmp rfl (.tmp rfl .nil))) (so sr) (hk _ _ _ ⟨qq, rfl, rfl⟩)
 refine sp ?_
 refine sg bn ?_
 refine vs 1 ?_
 refine ls aaO Tryz.underlying115 ?_
 refine vs 2 ?_
 refine es ?_
 refine sg aL ?_
 refine vs 1 ?_
 refine er ?_
 refine At.block ?_
 refine At.c8 hM (λ (cu : (Int × Int × Int)) R' H' st' => OM = R' ∧ H' = (o7, .cells #[iv x0.aE, iv x0.aa.an, iv x0.aa.ax, aC, aD, aH] 28) :: H ∧ aK st' [(1, .pointer (some ⟨o7, 0, none⟩)), (5, aAS), (7, iv cu.1), (8, iv cu.2.1), (9, iv cu.2.2)]) (λ (eU : (Int × Int)) R' H' st' => OM = R' ∧ H = H' ∧ aK st' [(7, iv eU.1), (8, iv eU.2)]) 0 rfl ⟨rfl, rfl, aA.sub ⟨rfl, rfl, rfl, rfl, rfl, trivial⟩⟩ ?_ ?_
 rotate_right
 ·rintro cu OH N8 UQ ⟨rfl, rfl, z8⟩ nP hM qe sv
  refine At.sub z8 ?_
  refine sq ?_
  refine sg bT ?_
  refine vs 2 ?_
  refine ld 3 cK z0 ?_
  refine ls ay Tryz.underlying24 ?_
  refine vs 1 ?_
  refine er ?_
  refine sc hM (λ Ag hM => ?_) (λ Ag hM => ?_)
  ·refine sp ?_
   refine sq ?_
   refine At.block ?_
   refine sg bn ?_
   refine vs 2 ?_
   obtain ⟨eY, mH, hM⟩ := ao hM
   refine At.cv aii (awP fC.1 cu.2.2 aaO.rd mH) ?_
   rintro _ _ _ ⟨rfl, rfl, rfl⟩
   refine vs 1 ?_
   refine nx aS ?_
   refine vs 3 ?_
   refine er ?_
   refine sc hM (λ Gn hM => ?_) (λ Gn hM => ?_)
   ·refine At.rg bn ?_
    refine vs 4 ?_
    refine er ?_
    refine At.inBlock ?_
    refine At.rg aS ?_
    refine vs 3 ?_
    refine er ?_
    exact qe _ (af hM).symm _ _ _ ⟨rfl, rfl, aA.sub ⟨rfl, rfl, rfl, rfl, rfl, trivial⟩⟩
   refine sp ?_
   refine At.inBlock ?_
   refine At.rg aS ?_
   refine vs 3 ?_
   refine er ?_
   exact qe _ (af hM).symm _ _ _ ⟨rfl, rfl, aA.sub ⟨rfl, rfl, rfl, rfl, rfl, trivial⟩⟩
  exact At.exit rfl (At.drop (so sr) (sv _ (af hM).symm _ _ _ ⟨rfl, rfl, aA.sub ⟨rfl, rfl, trivial⟩⟩))
 rintro eU Ji IV L9 ⟨rfl, rfl, uJ⟩ hM
 refine At.sub uJ ?_
 refine sg bT ?_
 refine vs 5 ?_
 refine er ?_
 obtain rfl := af hM
 exact rt Tryz.func34 (.tmp rfl (.tmp rfl (.tmp rfl .nil))) sr (hk _ _ _ ⟨qq, rfl, rfl⟩)
theorem Ua (x0 : aq) {aC aD aH : Value} (ay : aj bm 5 R aC x0.az) (aB : aj CZ 1 R aD x0.Out) (aF : aj bh 2 R aH x0.aO) {r : (aq × Int)} (hM : Ee x0 = some r) : aJ ag 119 #[.agg #[iv x0.aE, iv x0.aa.an, iv x0.aa.ax, aC, aD, aH]] R H (λ v R' H' => aN R R' ∧ H = H' ∧ ∃ dK dL dM, aj bm 5 R' dK r.1.az ∧ aj CZ 1 R' dL r.1.Out ∧ aj bh 2 R' dM r.1.aO ∧ v = .tuple #[.agg #[iv r.1.aE, iv r.1.aa.an, iv r.1.aa.ax, dK, dL, dM], iv r.2]) := by
 unfold Ee at hM
 refine aJ.aX Tryz.func119 rfl (n := 16) rfl rfl λ fr cs hk => ?_
 refine sg aS ?_
 refine bx λ n9 => ?_
 refine At.s rfl rfl (Ox.alloc (cs := #[iv 0, iv 0, iv 0, .slice none 0 0, .slice none 0 0, .slice none 0 0]) rfl jP rfl λ zf _ _ => ⟨_, (.put rfl), ?_⟩)
 refine vs 1 ?_
 refine es ?_
 refine sg dY ?_
 refine lN [_, _, _, _, _, _] 0 6 aU z1 ?_
 obtain ⟨fR, qE, hM⟩ := ao hM
 refine At.cv zo (A0 x0 0 ay aB aF qE) ?_
 rintro _ agN _ ⟨sC, rfl, aP3, aLH, rfl⟩
 replace ay := ay.mono sC
 replace aB := aB.mono sC
 replace aF := aF.mono sC
 refine vs 5 ?_
 refine nx aQ ?_
 refine vs 2 ?_
 refine er ?_
 refine sc hM (λ kF hM => ?_) (λ kF hM => ?_)
 ·refine sg bn ?_
  refine At.s rfl rfl (Ox.build (cells := #[_, _, _, _, _, _]) rfl j5 rfl aY rfl (.put rfl) ?_)
  refine vs 1 ?_
  refine At.s rfl rfl (Ox.bp (cs' := #[_, _, _, _, _, _]) rfl rfl rfl aU rfl (ak rfl (ak rfl (ak rfl (ak rfl (ak rfl (ak rfl aW)))))) .here rfl rfl rfl (.refl _) ?_)
  refine vs 1 ?_
  refine er ?_
  obtain rfl := af hM
  exact rt Tryz.func119 (.agg rfl aU rfl (aT.box z0) (.tmp rfl .nil)) (so (so sr)) (hk _ _ _ ⟨sC, rfl, .slice none 0 0, .slice none 0 0, .slice none 0 0, aj.nil, aj.nil, aj.nil, rfl⟩)
 refine sp ?_
 refine sg aS ?_
 refine lN [_, _, _, _, _, _] 0 6 aU z1 ?_
 refine At.s rfl rfl (Ox.bp (cs' := #[_, _, _, _, _, _]) rfl rfl rfl aU rfl (ak rfl (ak rfl (ak rfl (ak ay.one (ak aB.one (ak aF.one aW)))))) .here rfl rfl rfl (.refl _) ?_)
 refine vs 1 ?_
 refine er ?_
 obtain rfl := af hM
 exact rt Tryz.func119 (.agg rfl aU rfl (aT.box z0) (.tmp rfl .nil)) (so (so sr)) (hk _ _ _ ⟨sC, rfl, aC, aD, aH, ay, aB, aF, rfl⟩)
theorem aDK (x0 : aq) (x1 : bW) {aC aD aH : Value} (ay : aj bm 5 R aC x0.az) (aB : aj CZ 1 R aD x0.Out) (aF : aj bh 2 R aH x0.aO) {r : (aq × Int)} (hM : NG x0 x1 = some r) : aJ ag 36 #[.agg #[iv x0.aE, iv x0.aa.an, iv x0.aa.ax, aC, aD, aH], .agg #[iv x1.dr, iv x1.dQ]] R H (λ v R' H' => aN R R' ∧ H = H' ∧ ∃ dK dL dM, aj bm 5 R' dK r.1.az ∧ aj CZ 1 R' dL r.1.Out ∧ aj bh 2 R' dM r.1.aO ∧ v = .tuple #[.agg #[iv r.1.aE, iv r.1.aa.an, iv r.1.aa.ax, dK, dL, dM], iv r.2]) := by
 unfold NG at hM
 refine aJ.aX Tryz.func36 rfl (n := 19) rfl rfl λ fr cs hk => ?_
 refine sg bn ?_
 refine bx λ iN => ?_
 refine bx λ gm => ?_
 refine At.s rfl rfl (Ox.alloc (cs := #[iv 0, iv 0, iv 0, .slice none 0 0, .slice none 0 0, .slice none 0 0]) rfl jP rfl λ jW _ _ => ⟨_, (.put rfl), ?_⟩)
 refine vs 1 ?_
 refine es ?_
 refine sg aS ?_
 refine lN [_, _, _, _, _, _] 0 6 aU z2 ?_
 obtain ⟨dW, mF, hM⟩ := ao hM
 refine At.cv zn (AY x0 ay aB aF mF) ?_
 rintro _ _ _ ⟨rfl, rfl, rfl⟩
 refine vs 1 ?_
 refine nx aQ ?_
 refine vs 2 ?_
 refine er ?_
 refine sc hM (λ SO hM => ?_) (λ SO hM => ?_)
 ·refine sg bn ?_
  refine At.s rfl rfl (Ox.build (cells := #[_, _, _, _, _, _]) rfl j5 rfl aY rfl (.put rfl) ?_)
  refine vs 1 ?_
  refine At.s rfl rfl (Ox.bp (cs' := #[_, _, _, _, _, _]) rfl rfl rfl aU rfl (ak rfl (ak rfl (ak rfl (ak rfl (ak rfl (ak rfl aW)))))) .here rfl rfl rfl (.refl _) ?_)
  refine vs 1 ?_
  refine er ?_
  obtain rfl := af hM
  exact rt Tryz.func36 (.agg rfl aU rfl (aT.box z0) (.tmp rfl .nil)) (so (so (so sr))) (hk _ _ _ ⟨(rr), rfl, .slice none 0 0, .slice none 0 0, .slice none 0 0, aj.nil, aj.nil, aj.nil, rfl⟩)
 refine sp ?_
 refine sg eC ?_
 refine lN [_, _, _, _, _, _] 0 6 aU z2 ?_
 refine lN [_, _] 0 2 mW z1 ?_
 obtain ⟨cJ, qG, hM⟩ := ao hM
 refine At.cv JZ (Lf x0 x1 ay aB aF qG) ?_
 rintro _ EK _ ⟨iz, rfl, MQ, MR, MS, sN, sO, sP, rfl⟩
 obtain ⟨js, xo, hM⟩ := ao hM
 refine At.cv Pw (Ua cJ sN sO sP xo) ?_
 rintro _ Xl _ ⟨j3, rfl, aAM, aAN, aAO, aaI, aaJ, aaK, rfl⟩
 refine vs 2 ?_
 refine At.s rfl rfl (Ox.bp (cs' := #[_, _, _, _, _, _]) rfl rfl rfl aU rfl (ak rfl (ak rfl (ak rfl (ak aaI.one (ak aaJ.one (ak aaK.one aW)))))) .here rfl rfl rfl (.refl _) ?_)
 refine vs 1 ?_
 refine er ?_
 obtain rfl := af hM
 exact rt Tryz.func36 (.agg rfl aU rfl (aT.box z0) (.tmp rfl .nil)) (so (so (so sr))) (hk _ _ _ ⟨(iz.trans j3), rfl, aAM, aAN, aAO, aaI, aaJ, aaK, rfl⟩)
end
end Go.Proofs.YtabamagholjdcaaGreatDoor
