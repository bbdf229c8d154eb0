/- Walks, part 3: each function computes its model. -/
import Derived.Test.YtabamagholjdcaaGreatDoorQAHuP2
namespace Go.Proofs.YtabamagholjdcaaGreatDoor
open Go.Lg Go.Proofs
set_option maxRecDepth 100000
set_option maxHeartbeats 4000000
section
variable {B : Base} {main : Bool} {ag : Jd Tryz.prog B main} {R : aI} {H : au}
theorem T9 (x0 : aq) {aC aD aH : Value} (hG : fM R) (ay : aj bm 5 R aC x0.az) (aB : aj CZ 1 R aD x0.Out) (aF : aj bh 2 R aH x0.aO) {r : (aq × Int)} (hM : yt x0 = some r) : aJ ag 118 #[.agg #[iv x0.aE, iv x0.aa.an, iv x0.aa.ax, aC, aD, aH]] R H (λ v R' H' => aN R R' ∧ H = H' ∧ ∃ dK dL dM, aj bm 5 R' dK r.1.az ∧ aj CZ 1 R' dL r.1.Out ∧ aj bh 2 R' dM r.1.aO ∧ v = .tuple #[.agg #[iv r.1.aE, iv r.1.aa.an, iv r.1.aa.ax, dK, dL, dM], iv r.2]) := by
 unfold yt at hM
 refine aJ.aX Tryz.func118 rfl (n := 48) rfl rfl λ fr cs hk => ?_
 refine sg aS ?_
 refine bx λ lY => ?_
 refine At.s rfl rfl (Ox.alloc (cs := #[iv 0, iv 0, iv 0, .slice none 0 0, .slice none 0 0, .slice none 0 0]) rfl jP rfl λ iP _ _ => ⟨_, (.put rfl), ?_⟩)
 refine vs 1 ?_
 refine es ?_
 refine sg aS ?_
 refine lN [_, _, _, _, _, _] 0 6 aU z1 ?_
 obtain ⟨iX, qJ, hM⟩ := ao hM
 refine At.cv uo (ve x0 hG ay aB aF qJ) ?_
 rintro _ Xp _ ⟨pA, rfl, rfl⟩
 replace ay := ay.mono pA
 replace aB := aB.mono pA
 replace aF := aF.mono pA
 refine vs 1 ?_
 refine nx aQ ?_
 refine vs 2 ?_
 refine er ?_
 refine sc hM (λ Ah hM => ?_) (λ Ah hM => ?_)
 ·refine sg bn ?_
  refine At.s rfl rfl (Ox.build (cells := #[_, _, _, _, _, _]) rfl j5 rfl aY rfl (.put rfl) ?_)
  refine vs 1 ?_
  refine At.s rfl rfl (Ox.bp (cs' := #[_, _, _, _, _, _]) rfl rfl rfl aU rfl (ak rfl (ak rfl (ak rfl (ak rfl (ak rfl (ak rfl aW)))))) .here rfl rfl rfl (.refl _) ?_)
  refine vs 1 ?_
  refine er ?_
  obtain rfl := af hM
  exact rt Tryz.func118 (.agg rfl aU rfl (aT.box z0) (.tmp rfl .nil)) (so (so sr)) (hk _ _ _ ⟨pA, rfl, .slice none 0 0, .slice none 0 0, .slice none 0 0, aj.nil, aj.nil, aj.nil, rfl⟩)
 refine sp ?_
 refine sq ?_
 refine sg bn ?_
 refine lN [_, _, _, _, _, _] 0 6 aU z1 ?_
 refine At.s rfl rfl (Ox.build (cells := #[_, _, _, _, _, _]) rfl pV rfl (bf rfl rfl rfl rfl aY) rfl (.put rfl) ?_)
 obtain ⟨iJ, qL, hM⟩ := ao hM
 refine At.cv Pt (T7 (⟨x0.aE, ⟨x0.aa.an, x0.aa.ax⟩, x0.az, x0.Out, x0.aO⟩ : aq) ay aB aF qL) ?_
 rintro _ aIO _ ⟨FE, rfl, rfl⟩
 replace ay := ay.mono FE
 replace aB := aB.mono FE
 replace aF := aF.mono FE
 refine vs 1 ?_
 refine er ?_
 refine sc hM (λ Ai hM => ?_) (λ Ai hM => ?_)
 ·refine sg aS ?_
  refine At.s rfl rfl (Ox.build (cells := #[_, _, _, _, _, _]) rfl j5 rfl aY rfl (.put rfl) ?_)
  refine At.s rfl rfl (Ox.bp (cs' := #[_, _, _, _, _, _]) rfl rfl rfl aU rfl (ak rfl (ak rfl (ak rfl (ak rfl (ak rfl (ak rfl aW)))))) .here rfl rfl rfl (.refl _) ?_)
  refine vs 1 ?_
  refine er ?_
  obtain rfl := af hM
  exact rt Tryz.func118 (.agg rfl aU rfl (aT.box z0) (.tmp rfl .nil)) (so (so sr)) (hk _ _ _ ⟨(pA.trans FE), rfl, .slice none 0 0, .slice none 0 0, .slice none 0 0, aj.nil, aj.nil, aj.nil, rfl⟩)
 refine sp ?_
 refine sq ?_
 refine At.draw (n := 15) (is := [0, 1, 2, 3, 4, 5, 6, 7, 8, 9, 10, 11, 12, 13, 14]) (many ((iP, .cells #[iv 0, iv 0, iv 0, .slice none 0 0, .slice none 0 0, .slice none 0 0] 28) :: (lY, .cells #[iv x0.aE, iv x0.aa.an, iv x0.aa.ax, aC, aD, aH] 28) :: H) [(10, (iP, .cells #[iv 0, iv 0, iv 0, .slice none 0 0, .slice none 0 0, .slice none 0 0] 28) :: H), (12, (iP, .cells #[iv 0, iv 0, iv 0, .slice none 0 0, .slice none 0 0, .slice none 0 0] 28) :: H), (14, (iP, .cells #[iv 0, iv 0, iv 0, .slice none 0 0, .slice none 0 0, .slice none 0 0] 28) :: H)]) mixed rfl (by decide +kernel) rfl rfl ?_
 refine Any.vs 1 [0] rfl ?_
 refine ts 1 [2, 5, 8, 9, 10, 11, 12, 13, 14] rfl (cq rfl (cq rfl (cq rfl (dm (su (so sr)))))) (su (so sr)) (λ R' H' hR hS => Ox.bV rfl rfl cK ((aT.box (hS _ z0)).one (j := 3) rfl) rfl (.one rfl) ⟨rfl, rfl, rfl⟩) ?_
 refine Any.vs 1 [3] rfl ?_
 refine ts 4 [5, 8, 9, 10, 11, 12, 13, 14] rfl (cq rfl (cq rfl (cq rfl (dm (su (so sr)))))) (su (so sr)) (λ R' H' hR hS => Ox.bV rfl rfl bL ((aT.box (hS _ z0)).one (j := 4) rfl) rfl (.one rfl) ⟨rfl, rfl, rfl⟩) ?_
 refine Any.vs 1 [6] rfl ?_
 refine ts 7 [8, 9, 10, 11, 12, 13, 14] rfl (cq rfl (cq rfl (cq rfl (dm (su (so sr)))))) (su (so sr)) (λ R' H' hR hS => Ox.bV rfl rfl eu ((aT.box (hS _ z0)).one (j := 5) rfl) rfl (.one rfl) ⟨rfl, rfl, rfl⟩) ?_
 obtain ⟨jw, uY, hM⟩ := ao hM
 refine Any.cv 2 YL (abw x0.az ay.rd uY) ?_
 rintro tA agQ _ ⟨Cl, _, Oy, uG, rfl, rfl⟩
 replace aB := aB.mono Cl
 replace aF := aF.mono Cl
 refine ⟨Cl, (bO rfl (su (aP sr))), ?_⟩
 refine Any.vs 1 [9] rfl ?_
 obtain ⟨iY, pG, hM⟩ := ao hM
 refine Any.cv 5 wP (xI x0.Out aB.rd pG) ?_
 rintro DL aIR _ ⟨Kt, _, uc, qz, rfl, rfl⟩
 replace aF := aF.mono Kt
 replace uG := uG.mono Kt
 refine ⟨Kt, (bO rfl (su (aP (aP sr)))), ?_⟩
 obtain ⟨nR, Au, hM⟩ := ao hM
 refine Any.cv 8 Pu (T8 x0.aO aF.rd Au) ?_
 rintro Ih Xs _ ⟨Ku, _, rY, uH, rfl, rfl⟩
 replace uG := uG.mono Ku
 replace qz := qz.mono Ku
 refine ⟨Ku, (bO rfl (su (aP (aP (aP sr))))), ?_⟩
 refine Any.on 10 rfl rfl (aR.to (Ox.cM (cs' := #[_, _, _, _, _, _]) rfl rfl rfl cK uG.one (.skip (.skip (.skip (.there .here)))) rfl rfl rfl (.refl _) ⟨rr, (bO rfl (su (aP (aP (aP (sk (so sr))))))), ?_⟩))
 refine Any.vs 1 [11] rfl ?_
 refine Any.on 12 rfl rfl (aR.to (Ox.cM (cs' := #[_, _, _, _, _, _]) rfl rfl rfl bL qz.one (.skip (.skip (.skip (.there .here)))) rfl rfl rfl (.refl _) ⟨rr, (bO rfl (su (aP (aP (aP (sk (so sr))))))), ?_⟩))
 refine Any.vs 1 [13] rfl ?_
 refine Any.on 14 rfl rfl (aR.to (Ox.cM (cs' := #[_, _, _, _, _, _]) rfl rfl rfl eu uH.one (.skip (.skip (.skip (.there .here)))) rfl rfl rfl (.refl _) ⟨rr, (bO rfl (su (aP (aP (aP (sk (so sr))))))), ?_⟩))
 refine Any.done ?_
 refine sq ?_
 refine sg bn ?_
 refine vs 1 ?_
 refine At.ld cK ((aT.box (List.mem_append_right _ (List.mem_append_right _ (List.mem_append_right _ z1)))).one (j := 3) rfl) ?_
 refine At.s rfl rfl (Ox.u0 rfl rfl uG Tryz.underlying24 rfl (.put rfl) ?_)
 refine vs 1 ?_
 refine er ?_
 refine At.block ?_
 refine At.c8 hM (λ (nH : ((List cG) × Int)) R' H' st' => aN Xs R' ∧ ∃ yY, aZ bm 5 58 R' tA nH.1 yY ∧ H' = rY ++ (uc ++ (yY ++ ((iP, .cells #[iv 0, iv 0, iv 0, .slice none 0 0, .slice none 0 0, .slice none 0 0] 28) :: (lY, .cells #[iv x0.aE, iv x0.aa.an, iv x0.aa.ax, tA, DL, Ih] 28) :: H))) ∧ aK st' [(1, .pointer (some ⟨lY, 0, none⟩)), (2, .pointer (some ⟨iP, 0, none⟩)), (31, tA), (32, iv (jw.length : Int)), (33, iv nH.2)]) (λ (Bu : (List cG)) R' H' st' => aN Xs R' ∧ ∃ Ot, aZ bm 5 58 R' tA Bu Ot ∧ H' = rY ++ (uc ++ (Ot ++ ((iP, .cells #[iv 0, iv 0, iv 0, .slice none 0 0, .slice none 0 0, .slice none 0 0] 28) :: (lY, .cells #[iv x0.aE, iv x0.aa.an, iv x0.aa.ax, tA, DL, Ih] 28) :: H))) ∧ aK st' [(1, .pointer (some ⟨lY, 0, none⟩)), (2, .pointer (some ⟨iP, 0, none⟩))]) 0 rfl ⟨rr, Oy, uG, rfl, aA.sub ⟨rfl, rfl, rfl, rfl, rfl, trivial⟩⟩ ?_ ?_
 rotate_right
 ·rintro nH R77 H77 aO5 ⟨ZD, yY, zQ, rfl, aq9⟩ yT hM ahi adY
  refine At.sub aq9 ?_
  refine sg aL ?_
  refine vs 1 ?_
  refine es ?_
  refine sc hM (λ Gx hM => ?_) (λ Gx hM => ?_)
  ·refine sp ?_
   refine sq ?_
   refine At.block ?_
   refine sg dy ?_
   refine vs 1 ?_
   obtain ⟨oX, avK, hM⟩ := ao hM
   obtain ⟨aKx, aNt, _, ⟨ado, aa8, rfl⟩, aml, aoh⟩ := (zQ.rd (λ _ h => (List.mem_append_right _ (List.mem_append_right _ (List.mem_append_left _ h))))).elem gN avK
   refine At.s rfl rfl (Ox.bq rfl rfl rfl aoh rfl (.put rfl) ?_)
   refine At.s rfl rfl (Ox.bP (vs := [_, _, _, _, _]) rfl rfl ko rfl ((aml.sub pp).part (j := 0) (n := 5) rfl) rfl (.put rfl) ?_)
   refine At.s rfl rfl (Ox.alloc (cs := #[.string (⟨#[]⟩), iv 0, iv 0, iv 0, .slice none 0 0]) rfl vO rfl λ Ju _ _ => ⟨_, (.put rfl), ?_⟩)
   refine vs 1 ?_
   refine At.s rfl rfl (Ox.bp (cs' := #[_, _, _, _, _]) rfl rfl rfl ko rfl (ak rfl (ak rfl (ak rfl (ak rfl (ak aa8.one aW))))) .here rfl rfl rfl (.refl _) ?_)
   refine er ?_
   refine At.draw (n := 9) (is := [0, 1, 2, 3, 4, 5, 6, 7, 8]) (many ((Ju, .cells #[.string oX.Name, iv oX.dz, iv oX.Weight.an, iv oX.Weight.ax, ado] 58) :: rY ++ (uc ++ (yY ++ ((iP, .cells #[iv 0, iv 0, iv 0, .slice none 0 0, .slice none 0 0, .slice none 0 0] 28) :: (lY, .cells #[iv x0.aE, iv x0.aa.an, iv x0.aa.ax, tA, DL, Ih] 28) :: H)))) [(8, (Ju, .cells #[.string oX.Name, iv oX.dz, iv oX.Weight.an, iv oX.Weight.ax, ado] 58) :: rY ++ (uc ++ ((iP, .cells #[iv 0, iv 0, iv 0, .slice none 0 0, .slice none 0 0, .slice none 0 0] 28) :: (lY, .cells #[iv x0.aE, iv x0.aa.an, iv x0.aa.ax, tA, DL, Ih] 28) :: H)))]) mixed rfl (by decide +kernel) rfl rfl ?_
   refine Any.vs 1 [0] rfl ?_
   refine ts 1 [6, 7, 8] rfl (cq rfl (dm (su (so (aP (aP (aP (so sr)))))))) (su (so (aP (aP (aP (so sr)))))) (λ R' H' hR hS => Ox.bV rfl rfl cK ((aT.box (hS _ z0)).one (j := 3) rfl) rfl (.one rfl) ⟨rfl, rfl, rfl⟩) ?_
   refine Any.vs 2 [2, 3] rfl ?_
   refine ts 4 [5, 6, 7, 8] rfl (cq rfl (dm (su (sk (aP (aP (aP (so (so sr))))))))) (su (sk (aP (aP (aP (so (so sr))))))) (λ R' H' hR hS => Ox.bV rfl rfl bL ((aT.box (hS _ z0)).one (j := 4) rfl) rfl (.one rfl) ⟨rfl, rfl, rfl⟩) ?_
   obtain ⟨DM, S1, hM⟩ := ao hM
   refine Any.cv 5 wP (xI oX.On aa8.rd S1) ?_
   rintro aPL agL _ ⟨uA, _, aFO, ao7, rfl, rfl⟩
   replace zQ := zQ.mono uA
   refine ⟨uA, (bO rfl (su (aP sr))), ?_⟩
   refine Any.dB (H2 := (Ju, _) :: rY ++ (uc ++ (yY ++ ((iP, _) :: (lY, _) :: H)))) (λ X => X ++ ((Ju, _) :: rY ++ (uc ++ (yY ++ ((iP, _) :: (lY, _) :: H))))) .id rfl ao7 (by decide) (by decide) (Lj (su (sk (eD (eD (aP sr))))) (Li pp)) (λ aHz ZE QU => ?_)
   replace zQ := zQ.mono ZE
   obtain ⟨kM, S2, hM⟩ := ao hM
   obtain ⟨aJf, aKL, _, ⟨aAn, aLx, rfl⟩, rfl, aK7, amY, am3, aLe, avL, asO⟩ := zQ.E5 gN S2
   refine ts 6 [7, 8] rfl (cq rfl (dm (su (so (aP (aP (so (so (so sr))))))))) (su (so (aP (aP (so (so (so sr))))))) (λ R' H' hR hS => Ox.bq rfl rfl rfl am3 rfl (.one rfl) ⟨rfl, rfl, rfl⟩) ?_
   refine Any.vs 1 [7] rfl ?_
   refine Any.on 8 rfl rfl (aR.to (Ox.HL (K := bm) (k := 5) (e := 58) (i := nH.2) (x' := (⟨kM.Name, kM.dz, ⟨kM.Weight.an, kM.Weight.ax⟩, DM⟩ : cG)) (pre := [.string kM.Name, iv kM.dz, iv kM.Weight.an, iv kM.Weight.ax]) (mid := [aAn]) (post := []) (.cons (.app (.app .id))) rfl rfl rfl (by rw [QU.cells]) azw rfl (ak QU.one aW) amY rfl rfl rfl avL asO ⟨_, QU, rfl⟩ rfl (.refl _) λ af6 ao2 => ⟨rr, (bO rfl (su (sk (eD (eD (aP sr)))))), ?_⟩))
   refine Any.done ?_
   refine At.inBlock ?_
   refine At.rg aQ ?_
   refine vs 2 ?_
   refine er ?_
   exact At.drop (so sr) (ahi _ (af hM).symm _ _ _ ⟨((ZD.trans uA).trans ZE), af6, ao2, rfl, aA.sub ⟨rfl, rfl, rfl, rfl, rfl, trivial⟩⟩)
  exact At.exit rfl (adY _ (af hM).symm _ _ _ ⟨ZD, yY, zQ, rfl, aA.sub ⟨rfl, rfl, trivial⟩⟩)
 rintro Bu aC2 aCZ aD0 ⟨Qf, Ot, Z3, rfl, aev⟩ hM
 refine At.sub aev ?_
 replace qz := qz.mono Qf
 replace uH := uH.mono Qf
 refine sg aS ?_
 refine At.s rfl rfl (Ox.bP (vs := [_, _, _, _, _, _]) rfl rfl aU rfl ((aT.box (List.mem_append_right _ (List.mem_append_right _ (List.mem_append_right _ z1)))).part (j := 0) (n := 6) rfl) rfl (.put rfl) ?_)
 refine At.s rfl rfl (Ox.bp (cs' := #[_, _, _, _, _, _]) rfl rfl rfl aU rfl (ak rfl (ak rfl (ak rfl (ak Z3.one (ak qz.one (ak uH.one aW)))))) (.skip (.skip (.skip .here))) rfl rfl rfl (.refl _) ?_)
 refine vs 1 ?_
 refine er ?_
 refine At.dB (H2 := rY ++ (uc ++ ((iP, _) :: (lY, _) :: H))) (λ X => rY ++ (uc ++ (X ++ ((iP, _) :: (lY, _) :: H)))) (.app (.app .id)) rfl Z3 (λ aHA Qi FJ => ?_)
 replace qz := qz.mono Qi
 replace uH := uH.mono Qi
 refine At.dB (H2 := rY ++ ((iP, _) :: (lY, _) :: H)) (λ X => rY ++ (X ++ ((iP, _) :: (lY, _) :: H))) (.app .id) rfl qz (λ aHB Qj QV => ?_)
 replace FJ := FJ.mono Qj
 replace uH := uH.mono Qj
 refine At.dB (H2 := (iP, _) :: (lY, _) :: H) (λ X => X ++ ((iP, _) :: (lY, _) :: H)) .id rfl uH (λ aHC Qk amt => ?_)
 replace FJ := FJ.mono Qk
 replace QV := QV.mono Qk
 obtain rfl := af hM
 exact rt Tryz.func118 (.agg rfl aU rfl (aT.box z0) (.tmp rfl .nil)) (so (so sr)) (hk _ _ _ ⟨((((((((pA.trans FE).trans Cl).trans Kt).trans Ku).trans Qf).trans Qi).trans Qj).trans Qk), rfl, tA, DL, Ih, FJ, QV, amt, rfl⟩)
theorem afA (x0 : aq) (x1 : bW) {aC aD aH : Value} (hG : fM R) (ay : aj bm 5 R aC x0.az) (aB : aj CZ 1 R aD x0.Out) (aF : aj bh 2 R aH x0.aO) {r : (aq × Int)} (hM : yE x0 x1 = some r) : aJ ag 35 #[.agg #[iv x0.aE, iv x0.aa.an, iv x0.aa.ax, aC, aD, aH], .agg #[iv x1.dr, iv x1.dQ]] R H (λ v R' H' => aN R R' ∧ H = H' ∧ ∃ dK dL dM, aj bm 5 R' dK r.1.az ∧ aj CZ 1 R' dL r.1.Out ∧ aj bh 2 R' dM r.1.aO ∧ v = .tuple #[.agg #[iv r.1.aE, iv r.1.aa.an, iv r.1.aa.ax, dK, dL, dM], iv r.2]) := by
 unfold yE at hM
 refine aJ.aX Tryz.func35 rfl (n := 24) rfl rfl λ fr cs hk => ?_
 refine sg bn ?_
 refine bx λ e6 => ?_
 refine bx λ lW => ?_
 refine At.s rfl rfl (Ox.alloc (cs := #[iv 0, iv 0, iv 0, .slice none 0 0, .slice none 0 0, .slice none 0 0]) rfl jP rfl λ e7 _ _ => ⟨_, (.put rfl), ?_⟩)
 refine vs 1 ?_
 refine es ?_
 refine sg aS ?_
 refine lN [_, _, _, _, _, _] 0 6 aU z2 ?_
 obtain ⟨cJ, qG, hM⟩ := ao hM
 refine At.cv uo (ve x0 hG ay aB aF qG) ?_
 rintro _ EK _ ⟨iz, rfl, rfl⟩
 replace ay := ay.mono iz
 replace aB := aB.mono iz
 replace aF := aF.mono iz
 replace hG := hG.mono iz
 refine vs 1 ?_
 refine nx aQ ?_
 refine vs 2 ?_
 refine er ?_
 refine sc hM (λ qB hM => ?_) (λ qB hM => ?_)
 ·refine sg bn ?_
  refine At.s rfl rfl (Ox.build (cells := #[_, _, _, _, _, _]) rfl j5 rfl aY rfl (.put rfl) ?_)
  refine vs 1 ?_
  refine At.s rfl rfl (Ox.bp (cs' := #[_, _, _, _, _, _]) rfl rfl rfl aU rfl (ak rfl (ak rfl (ak rfl (ak rfl (ak rfl (ak rfl aW)))))) .here rfl rfl rfl (.refl _) ?_)
  refine vs 1 ?_
  refine er ?_
  obtain rfl := af hM
  exact rt Tryz.func35 (.agg rfl aU rfl (aT.box z0) (.tmp rfl .nil)) (so (so (so sr))) (hk _ _ _ ⟨iz, rfl, .slice none 0 0, .slice none 0 0, .slice none 0 0, aj.nil, aj.nil, aj.nil, rfl⟩)
 refine sp ?_
 refine sq ?_
 obtain ⟨gP, sS, hM⟩ := ao hM
 obtain ⟨fC, sU, hM⟩ := ao hM
 refine At.cut (λ R' H' st' => aN EK R' ∧ ∃ (Ba : Value) (yZ : au), aZ bh 2 47 R' Ba fC yZ ∧ H' = yZ ++ ((e7, .cells #[iv 0, iv 0, iv 0, .slice none 0 0, .slice none 0 0, .slice none 0 0] 28) :: (e6, .cells #[iv x0.aE, iv x0.aa.an, iv x0.aa.ax, aC, aD, Ba] 28) :: H) ∧ aK st' [(2, .pointer (some ⟨e6, 0, none⟩)), (4, .pointer (some ⟨e7, 0, none⟩))]) ?_ ?_
 ·rintro aHs aFE aPv ⟨Kk, Ba, yZ, zU, rfl, arC⟩
  refine At.sub arC ?_
  replace ay := ay.mono Kk
  replace aB := aB.mono Kk
  replace hG := hG.mono Kk
  refine sg dy ?_
  refine lN [_, _, _, _, _, _] 0 6 aU (List.mem_append_right _ z1) ?_
  refine At.dB (H2 := (e7, _) :: (e6, _) :: H) (λ X => X ++ ((e7, _) :: (e6, _) :: H)) .id rfl zU (λ agJ qo Ky => ?_)
  replace ay := ay.mono qo
  replace aB := aB.mono qo
  replace hG := hG.mono qo
  obtain ⟨fc, oC, hM⟩ := ao hM
  refine At.cv Pv (T9 (⟨x0.aE, ⟨x0.aa.an, x0.aa.ax⟩, x0.az, x0.Out, fC⟩ : aq) hG ay aB Ky oC) ?_
  rintro _ EL _ ⟨pz, rfl, adh, adi, adj, KO, KP, KQ, rfl⟩
  refine vs 2 ?_
  refine At.s rfl rfl (Ox.bp (cs' := #[_, _, _, _, _, _]) rfl rfl rfl aU rfl (ak rfl (ak rfl (ak rfl (ak KO.one (ak KP.one (ak KQ.one aW)))))) .here rfl rfl rfl (.refl _) ?_)
  refine vs 1 ?_
  refine er ?_
  obtain rfl := af hM
  exact rt Tryz.func35 (.agg rfl aU rfl (aT.box z0) (.tmp rfl .nil)) (so (so sr)) (hk _ _ _ ⟨(((iz.trans Kk).trans qo).trans pz), rfl, adh, adi, adj, KO, KP, KQ, rfl⟩)
 intro ZR
 refine At.draw (n := 8) (is := [0, 1, 2, 3, 4, 5, 6, 7]) (many ((e7, .cells #[iv 0, iv 0, iv 0, .slice none 0 0, .slice none 0 0, .slice none 0 0] 28) :: (lW, .cells #[iv x1.dr, iv x1.dQ] 47) :: (e6, .cells #[iv x0.aE, iv x0.aa.an, iv x0.aa.ax, aC, aD, aH] 28) :: H) [(7, (e7, .cells #[iv 0, iv 0, iv 0, .slice none 0 0, .slice none 0 0, .slice none 0 0] 28) :: (lW, .cells #[iv x1.dr, iv x1.dQ] 47) :: H)]) mixed rfl (by decide +kernel) rfl rfl ?_
 refine Any.vs 1 [0] rfl ?_
 refine ts 1 [2, 5, 6, 7] rfl (cq rfl (dm (su (so (so sr))))) (su (so (so sr))) (λ R' H' hR hS => Ox.bV rfl rfl eu ((aT.box (hS _ z0)).one (j := 5) rfl) rfl (.one rfl) ⟨rfl, rfl, rfl⟩) ?_
 refine ts 3 [4, 5, 6, 7] rfl (cq rfl (dm (su (so (sk (so sr)))))) (su (so (sk (so sr)))) (λ R' H' hR hS => Ox.bP (vs := [_, _]) rfl rfl mW rfl ((aT.box (hS _ z0)).part (j := 0) (n := 2) rfl) rfl (.one rfl) ⟨rfl, rfl, rfl⟩) ?_
 refine tw 2 4 ?_ ?_
 ·refine  (Ox.dO rfl rfl rfl rfl Pu rfl rfl ((T8 x0.aO aF.rd sS).mono ?_))
  rintro Va OL _ ⟨iB, _, Ow, Rt, rfl, rfl⟩
  refine ⟨_, (.put rfl), ⟨iB, (bO rfl (su (aP sr))), ?_⟩⟩
  refine Any.on 4 rfl rfl (aR.to (Ox.buildSlice (cells := #[_, _]) rfl o9 rfl (by decide) uj (bf rfl rfl rfl rfl aY) rfl λ o7 _ _ => ⟨_, (.put rfl), ⟨rr, (bO rfl (su (so (aP sr)))), ?_⟩⟩))
  refine Any.on 5 rfl rfl (aR.to (Ox.append (K := bh) (λ X => (o7, _) :: X ++ ((e7, _) :: (lW, _) :: (e6, _) :: H)) rfl rfl rfl n8 Tryz.underlying26 (by simp) (.cons .id) Rt (cE.lit z0 (aG.le (aG.cons (x := x1) rfl rfl aG.nil) rfl) rfl) sU rfl λ Ba yZ zU => ⟨_, (.put rfl), ⟨rr, (bO rfl (su (so (aP sr)))), ?_⟩⟩))
  refine Any.vs 1 [6] rfl ?_
  refine Any.on 7 rfl rfl (aR.to (Ox.cM (cs' := #[_, _, _, _, _, _]) rfl rfl rfl eu zU.one (.there (.skip (.there (.there .here)))) rfl rfl rfl (.refl _) ⟨rr, (bO rfl (su (so (aP (sk (sk (so sr))))))), ?_⟩))
  exact Any.done (At.drop (so (eD (sk (so sr)))) (ZR _ _ _ ⟨iB, Ba, yZ, zU, rfl, aA.sub ⟨rfl, rfl, trivial⟩⟩))
 refine  (aR.to (Ox.buildSlice (cells := #[_, _]) rfl o9 rfl (by decide) uj (bf rfl rfl rfl rfl aY) rfl λ o7 _ _ => ⟨_, (.put rfl), ⟨rr, (bO rfl (su (so sr))), ?_⟩⟩))
 refine Any.cv 2 Pu (T8 x0.aO aF.rd sS) ?_
 rintro Va OL _ ⟨iB, _, Ow, Rt, rfl, rfl⟩
 refine ⟨iB, (bO rfl (su (aP (so sr)))), ?_⟩
 refine Any.on 5 rfl rfl (aR.to (Ox.append (K := bh) (λ X => X ++ ((o7, _) :: (e7, _) :: (lW, _) :: (e6, _) :: H)) rfl rfl rfl n8 Tryz.underlying26 (by simp) .id Rt (cE.lit (List.mem_append_right _ z0) (aG.le (aG.cons (x := x1) rfl rfl aG.nil) rfl) rfl) sU rfl λ Ba yZ zU => ⟨_, (.put rfl), ⟨rr, (bO rfl (su (aP (so sr)))), ?_⟩⟩))
 refine Any.vs 1 [6] rfl ?_
 refine Any.on 7 rfl rfl (aR.to (Ox.cM (cs' := #[_, _, _, _, _, _]) rfl rfl rfl eu zU.one (.skip (.there (.there (.there .here)))) rfl rfl rfl (.refl _) ⟨rr, (bO rfl (su (aP (so (sk (sk (so sr))))))), ?_⟩))
 exact Any.done (At.drop (eD (so (sk (so sr)))) (ZR _ _ _ ⟨iB, Ba, yZ, zU, rfl, aA.sub ⟨rfl, rfl, trivial⟩⟩))
theorem afB (x0 : aq) (x1 : Int) (x2 : Reach) {aC aD aH : Value} (hG : fM R) (ay : aj bm 5 R aC x0.az) (aB : aj CZ 1 R aD x0.Out) (aF : aj bh 2 R aH x0.aO) {r : (aq × Int)} (hM : yF x0 x1 x2 = some r) : aJ ag 38 #[.agg #[iv x0.aE, iv x0.aa.an, iv x0.aa.ax, aC, aD, aH], iv x1, .agg #[iv x2.an, iv x2.ax]] R H (λ v R' H' => aN R R' ∧ H = H' ∧ ∃ dK dL dM, aj bm 5 R' dK r.1.az ∧ aj CZ 1 R' dL r.1.Out ∧ aj bh 2 R' dM r.1.aO ∧ v = .tuple #[.agg #[iv r.1.aE, iv r.1.aa.an, iv r.1.aa.ax, dK, dL, dM], iv r.2]) := by
 unfold yF at hM
 refine aJ.aX Tryz.func38 rfl (n := 66) rfl rfl λ fr cs hk => ?_
 refine sg bn ?_
 refine bx λ gp => ?_
 refine bx λ lX => ?_
 refine At.s rfl rfl (Ox.alloc (cs := #[iv 0, iv 0, iv 0, .slice none 0 0, .slice none 0 0, .slice none 0 0]) rfl jP rfl λ r7 _ _ => ⟨_, (.put rfl), ?_⟩)
 refine vs 1 ?_
 refine es ?_
 refine sg aS ?_
 refine lN [_, _, _, _, _, _] 0 6 aU z2 ?_
 obtain ⟨mS, Aq, hM⟩ := ao hM
 refine At.cv uo (ve x0 hG ay aB aF Aq) ?_
 rintro _ aIL _ ⟨uB, rfl, rfl⟩
 replace ay := ay.mono uB
 replace aB := aB.mono uB
 replace aF := aF.mono uB
 replace hG := hG.mono uB
 refine vs 1 ?_
 refine nx aQ ?_
 refine vs 2 ?_
 refine er ?_
 refine sc hM (λ ot hM => ?_) (λ ot hM => ?_)
 ·refine sg bn ?_
  refine At.s rfl rfl (Ox.build (cells := #[_, _, _, _, _, _]) rfl j5 rfl aY rfl (.put rfl) ?_)
  refine vs 1 ?_
  refine At.s rfl rfl (Ox.bp (cs' := #[_, _, _, _, _, _]) rfl rfl rfl aU rfl (ak rfl (ak rfl (ak rfl (ak rfl (ak rfl (ak rfl aW)))))) .here rfl rfl rfl (.refl _) ?_)
  refine vs 1 ?_
  refine er ?_
  obtain rfl := af hM
  exact rt Tryz.func38 (.agg rfl aU rfl (aT.box z0) (.tmp rfl .nil)) (so (so (so sr))) (hk _ _ _ ⟨uB, rfl, .slice none 0 0, .slice none 0 0, .slice none 0 0, aj.nil, aj.nil, aj.nil, rfl⟩)
 refine sp ?_
 refine sq ?_
 refine At.block ?_
 refine sg dy ?_
 refine lN [_, _, _, _, _, _] 0 6 aU z2 ?_
 refine At.s rfl rfl (Ox.build (cells := #[_, _, _, _, _, _]) rfl pV rfl (bf rfl rfl rfl rfl aY) rfl (.put rfl) ?_)
 refine vs 1 ?_
 obtain ⟨fA, kG, hM⟩ := ao hM
 refine At.cv Px (Ub (⟨x0.aE, ⟨x0.aa.an, x0.aa.ax⟩, x0.az, x0.Out, x0.aO⟩ : aq) x1 ay aB aF kG) ?_
 rintro _ _ _ ⟨rfl, rfl, rfl⟩
 refine vs 2 ?_
 refine er ?_
 refine sc hM (λ Gm hM => ?_) (λ Gm hM => ?_)
 ·refine sg aS ?_
  refine At.s rfl rfl (Ox.build (cells := #[_, _, _, _, _, _]) rfl j5 rfl aY rfl (.put rfl) ?_)
  refine At.s rfl rfl (Ox.bp (cs' := #[_, _, _, _, _, _]) rfl rfl rfl aU rfl (ak rfl (ak rfl (ak rfl (ak rfl (ak rfl (ak rfl aW)))))) .here rfl rfl rfl (.refl _) ?_)
  refine vs 1 ?_
  refine er ?_
  obtain rfl := af hM
  exact rt Tryz.func38 (.agg rfl aU rfl (aT.box z0) (.tmp rfl .nil)) (so (so (so sr))) (hk _ _ _ ⟨uB, rfl, .slice none 0 0, .slice none 0 0, .slice none 0 0, aj.nil, aj.nil, aj.nil, rfl⟩)
 refine sg bn ?_
 refine lN [_, _] 0 2 eJ z1 ?_
 obtain ⟨DU, TA, hM⟩ := ao hM
 refine At.cv Py (Uc x2 1 99 99  TA) ?_
 rintro _ _ _ ⟨rfl, rfl, rfl⟩
 refine vs 2 ?_
 refine er ?_
 refine sc hM (λ Gq hM => ?_) (λ Gq hM => ?_)
 ·refine sg aS ?_
  refine At.s rfl rfl (Ox.build (cells := #[_, _, _, _, _, _]) rfl j5 rfl aY rfl (.put rfl) ?_)
  refine At.s rfl rfl (Ox.bp (cs' := #[_, _, _, _, _, _]) rfl rfl rfl aU rfl (ak rfl (ak rfl (ak rfl (ak rfl (ak rfl (ak rfl aW)))))) .here rfl rfl rfl (.refl _) ?_)
  refine vs 1 ?_
  refine er ?_
  obtain rfl := af hM
  exact rt Tryz.func38 (.agg rfl aU rfl (aT.box z0) (.tmp rfl .nil)) (so (so (so sr))) (hk _ _ _ ⟨uB, rfl, .slice none 0 0, .slice none 0 0, .slice none 0 0, aj.nil, aj.nil, aj.nil, rfl⟩)
 refine sp ?_
 refine At.inBlock ?_
 refine sg eC ?_
 refine vs 1 ?_
 refine ld 3 cK z2 ?_
 refine vs 1 ?_
 obtain ⟨kP, GN, hM⟩ := ao hM
 obtain ⟨aJ9, aM8, _, ⟨aQE, aLQ, rfl⟩, al4, anV⟩ := ay.elem gN GN
 refine At.s rfl rfl (Ox.bq rfl rfl rfl anV rfl (.put rfl) ?_)
 refine vs 1 ?_
 refine At.s rfl rfl (Ox.bP (vs := [_, _]) rfl rfl eJ rfl (al4.any.part (j := 2) (n := 2) rfl) rfl (.put rfl) ?_)
 refine At.s rfl rfl (Ox.alloc (cs := #[iv 0, iv 0]) rfl tK rfl λ XY _ _ => ⟨_, (.put rfl), ?_⟩)
 refine At.s rfl rfl (Ox.bp (cs' := #[_, _]) rfl rfl rfl eJ rfl (ak rfl (ak rfl aW)) .here rfl rfl rfl (.refl _) ?_)
 refine nx BL ?_
 refine vs 1 ?_
 refine ld 0 bg z0 ?_
 refine vs 1 ?_
 refine ld 0 bg z2 ?_
 refine At.s rfl rfl (Ox.max (a := kP.Weight.an) (l := [x2.an]) rfl rfl rfl (.put rfl) ?_)
 refine vs 1 ?_
 refine ld 1 bg z0 ?_
 refine vs 1 ?_
 refine ld 1 bg z2 ?_
 refine At.s rfl rfl (Ox.min (a := kP.Weight.ax) (l := [x2.ax]) rfl rfl rfl (.put rfl) ?_)
 refine At.s rfl rfl (Ox.build (cells := #[_, _]) rfl HN rfl (bf rfl rfl rfl rfl (bf rfl rfl rfl rfl aY)) rfl (.put rfl) ?_)
 refine At.s rfl rfl (Ox.alloc (cs := #[iv 0, iv 0]) rfl tK rfl λ zi _ _ => ⟨_, (.put rfl), ?_⟩)
 refine At.s rfl rfl (Ox.bp (cs' := #[_, _]) rfl rfl rfl eJ rfl (ak rfl (ak rfl aW)) .here rfl rfl rfl (.refl _) ?_)
 refine es ?_
 refine sg bT ?_
 refine vs 1 ?_
 refine ld 0 bg z0 ?_
 refine vs 1 ?_
 refine ld 1 bg z0 ?_
 refine vs 1 ?_
 refine er ?_
 refine sc hM (λ Gt hM => ?_) (λ Gt hM => ?_)
 ·refine sg aS ?_
  refine At.s rfl rfl (Ox.build (cells := #[_, _, _, _, _, _]) rfl j5 rfl aY rfl (.put rfl) ?_)
  refine At.s rfl rfl (Ox.bp (cs' := #[_, _, _, _, _, _]) rfl rfl rfl aU rfl (ak rfl (ak rfl (ak rfl (ak rfl (ak rfl (ak rfl aW)))))) (.there (.there .here)) rfl rfl rfl (.refl _) ?_)
  refine vs 1 ?_
  refine er ?_
  obtain rfl := af hM
  exact rt Tryz.func38 (.agg rfl aU rfl (aT.box z2) (.tmp rfl .nil)) (so (so (so (so (so sr))))) (hk _ _ _ ⟨uB, rfl, .slice none 0 0, .slice none 0 0, .slice none 0 0, aj.nil, aj.nil, aj.nil, rfl⟩)
 refine sp ?_
 refine sg bT ?_
 refine vs 1 ?_
 refine ld 3 cK z4 ?_
 obtain ⟨nQ, As, hM⟩ := ao hM
 refine At.cv YL (abw x0.az ay.rd As) ?_
 rintro aBi aIP _ ⟨Kr, _, aFX, aac, rfl, rfl⟩
 replace aB := aB.mono Kr
 replace aF := aF.mono Kr
 replace hG := hG.mono Kr
 refine vs 1 ?_
 refine At.s rfl rfl (Ox.cM (cs' := #[_, _, _, _, _, _]) rfl rfl rfl cK aac.one (.skip (.there (.there (.there (.there .here))))) rfl rfl rfl (.refl _) ?_)
 refine nx dY ?_
 refine vs 1 ?_
 refine ld 3 cK (List.mem_append_right _ z4) ?_
 refine vs 1 ?_
 refine lN [_, _] 0 2 eJ (List.mem_append_right _ z0) ?_
 obtain ⟨gC, GO, hM⟩ := ao hM
 obtain ⟨aKf, aKP, _, ⟨aBj, avh, rfl⟩, rfl, aLb, am2, anZ, aLi, avP, asS⟩ := aac.E5 gN GO
 refine At.s rfl rfl (Ox.bq rfl rfl rfl anZ rfl (.put rfl) ?_)
 refine vs 1 ?_
 refine At.s rfl rfl (Ox.HL (K := bm) (k := 5) (e := 58) (i := x1) (x' := (⟨gC.Name, gC.dz, ⟨jK kP.Weight.an [x2.an], s5 kP.Weight.ax [x2.ax]⟩, gC.On⟩ : cG)) (pre := [.string gC.Name, iv gC.dz]) (mid := [iv gC.Weight.an, iv gC.Weight.ax]) (post := [aBj]) .id rfl rfl rfl rfl acs rfl (ak rfl (ak rfl aW)) am2 rfl rfl rfl avP asS ⟨_, avh, rfl⟩ rfl (.refl _) λ aFN ao5 => ?_)
 refine nx dy ?_
 refine lN [_, _, _, _, _, _] 0 6 aU (List.mem_append_right _ z4) ?_
 refine At.dB (H2 := (zi, _) :: (XY, _) :: (r7, _) :: (lX, _) :: (gp, _) :: H) (λ X => X ++ ((zi, _) :: (XY, _) :: (r7, _) :: (lX, _) :: (gp, _) :: H)) .id rfl ao5 (λ aHY Km amN => ?_)
 replace aB := aB.mono Km
 replace aF := aF.mono Km
 replace hG := hG.mono Km
 obtain ⟨jw, uY, hM⟩ := ao hM
 refine At.cv Pv (T9 (⟨x0.aE, ⟨x0.aa.an, x0.aa.ax⟩, nQ.set x1.toNat (⟨gC.Name, gC.dz, ⟨jK kP.Weight.an [x2.an], s5 kP.Weight.ax [x2.ax]⟩, gC.On⟩ : cG), x0.Out, x0.aO⟩ : aq) hG amN aB aF uY) ?_
 rintro _ agQ _ ⟨Cl, rfl, aBk, aBl, aBm, aa3, aa4, aa5, rfl⟩
 refine vs 2 ?_
 refine At.s rfl rfl (Ox.bp (cs' := #[_, _, _, _, _, _]) rfl rfl rfl aU rfl (ak rfl (ak rfl (ak rfl (ak aa3.one (ak aa4.one (ak aa5.one aW)))))) (.there (.there .here)) rfl rfl rfl (.refl _) ?_)
 refine vs 1 ?_
 refine er ?_
 obtain rfl := af hM
 exact rt Tryz.func38 (.agg rfl aU rfl (aT.box z2) (.tmp rfl .nil)) (so (so (so (so (so sr))))) (hk _ _ _ ⟨(((uB.trans Kr).trans Km).trans Cl), rfl, aBk, aBl, aBm, aa3, aa4, aa5, rfl⟩)
theorem Wk (x0 : aq) (x1 : Int) {aC aD aH : Value} (hG : fM R) (ay : aj bm 5 R aC x0.az) (aB : aj CZ 1 R aD x0.Out) (aF : aj bh 2 R aH x0.aO) {r : (aq × Int)} (hM : vZ x0 x1 = some r) : aJ ag 40 #[.agg #[iv x0.aE, iv x0.aa.an, iv x0.aa.ax, aC, aD, aH], iv x1] R H (λ v R' H' => aN R R' ∧ H = H' ∧ ∃ dK dL dM, aj bm 5 R' dK r.1.az ∧ aj CZ 1 R' dL r.1.Out ∧ aj bh 2 R' dM r.1.aO ∧ v = .tuple #[.agg #[iv r.1.aE, iv r.1.aa.an, iv r.1.aa.ax, dK, dL, dM], iv r.2]) := by
 unfold vZ at hM
 refine aJ.aX Tryz.func40 rfl (n := 42) rfl rfl λ fr cs hk => ?_
 refine sg aS ?_
 refine bx λ fS => ?_
 refine At.s rfl rfl (Ox.alloc (cs := #[iv 0, iv 0, iv 0, .slice none 0 0, .slice none 0 0, .slice none 0 0]) rfl jP rfl λ m9 _ _ => ⟨_, (.put rfl), ?_⟩)
 refine vs 1 ?_
 refine es ?_
 refine sg aS ?_
 refine lN [_, _, _, _, _, _] 0 6 aU z1 ?_
 obtain ⟨jA, uV, hM⟩ := ao hM
 refine At.cv uo (ve x0 hG ay aB aF uV) ?_
 rintro _ Jn _ ⟨jj, rfl, rfl⟩
 replace ay := ay.mono jj
 replace aB := aB.mono jj
 replace aF := aF.mono jj
 replace hG := hG.mono jj
 refine vs 1 ?_
 refine nx aQ ?_
 refine vs 2 ?_
 refine er ?_
 refine sc hM (λ Ad hM => ?_) (λ Ad hM => ?_)
 ·refine sg bn ?_
  refine At.s rfl rfl (Ox.build (cells := #[_, _, _, _, _, _]) rfl j5 rfl aY rfl (.put rfl) ?_)
  refine vs 1 ?_
  refine At.s rfl rfl (Ox.bp (cs' := #[_, _, _, _, _, _]) rfl rfl rfl aU rfl (ak rfl (ak rfl (ak rfl (ak rfl (ak rfl (ak rfl aW)))))) .here rfl rfl rfl (.refl _) ?_)
  refine vs 1 ?_
  refine er ?_
  obtain rfl := af hM
  exact rt Tryz.func40 (.agg rfl aU rfl (aT.box z0) (.tmp rfl .nil)) (so (so sr)) (hk _ _ _ ⟨jj, rfl, .slice none 0 0, .slice none 0 0, .slice none 0 0, aj.nil, aj.nil, aj.nil, rfl⟩)
 refine sp ?_
 refine sq ?_
 refine sq ?_
 obtain ⟨eO, oD, hM⟩ := ao hM
 obtain ⟨p6, pC, hM⟩ := ao hM
 refine At.cut (λ R' H' st' => aN Jn R' ∧ H' = (m9, .cells #[iv 0, iv 0, iv 0, .slice none 0 0, .slice none 0 0, .slice none 0 0] 28) :: (fS, .cells #[iv x0.aE, iv x0.aa.an, iv x0.aa.ax, aC, aD, aH] 28) :: H ∧ aK st' [(1, iv x1), (2, .pointer (some ⟨fS, 0, none⟩)), (4, .pointer (some ⟨m9, 0, none⟩)), (8, iv p6.2)]) ?_ ?_
 ·rintro aHt aFF aPw ⟨Ch, rfl, arD⟩
  refine At.sub arD ?_
  replace ay := ay.mono Ch
  replace aB := aB.mono Ch
  replace aF := aF.mono Ch
  replace hG := hG.mono Ch
  refine sg aQ ?_
  refine vs 2 ?_
  refine er ?_
  refine sc hM (λ SU hM => ?_) (λ SU hM => ?_)
  ·refine sg bn ?_
   refine At.s rfl rfl (Ox.build (cells := #[_, _, _, _, _, _]) rfl j5 rfl aY rfl (.put rfl) ?_)
   refine vs 1 ?_
   refine At.s rfl rfl (Ox.bp (cs' := #[_, _, _, _, _, _]) rfl rfl rfl aU rfl (ak rfl (ak rfl (ak rfl (ak rfl (ak rfl (ak rfl aW)))))) .here rfl rfl rfl (.refl _) ?_)
   refine vs 1 ?_
   refine er ?_
   obtain rfl := af hM
   exact rt Tryz.func40 (.agg rfl aU rfl (aT.box z0) (.tmp rfl .nil)) (so (so sr)) (hk _ _ _ ⟨(jj.trans Ch), rfl, .slice none 0 0, .slice none 0 0, .slice none 0 0, aj.nil, aj.nil, aj.nil, rfl⟩)
  refine sp ?_
  refine sg eC ?_
  refine vs 1 ?_
  refine ld 4 bL z1 ?_
  obtain ⟨ju, Ar, hM⟩ := ao hM
  refine At.cv wP (xI x0.Out aB.rd Ar) ?_
  rintro aQA OO _ ⟨jF, _, aFU, apg, rfl, rfl⟩
  replace ay := ay.mono jF
  replace aF := aF.mono jF
  replace hG := hG.mono jF
  refine vs 1 ?_
  refine At.s rfl rfl (Ox.buildSlice (cells := #[_]) rfl ck rfl (by decide) cS (bf rfl rfl rfl rfl aY) rfl λ r8 _ _ => ⟨_, (.put rfl), ?_⟩)
  obtain ⟨fA, kG, hM⟩ := ao hM
  refine At.s rfl rfl (Ox.append (K := CZ) (λ X => (r8, _) :: X ++ ((m9, _) :: (fS, _) :: H)) rfl rfl rfl cR Tryz.underlying25 (by simp) (.cons .id) apg (cE.lit z0 (aG.le (aG.cons (x := x1) rfl rfl aG.nil) rfl) rfl) kG rfl λ aQB aFV aab => ⟨_, (.put rfl), ?_⟩)
  refine vs 1 ?_
  refine At.s rfl rfl (Ox.cM (cs' := #[_, _, _, _, _, _]) rfl rfl rfl bL aab.one (.there (.skip (.there .here))) rfl rfl rfl (.refl _) ?_)
  refine nx dy ?_
  refine At.s rfl rfl (Ox.bP (vs := [_, _, _, _, _, _]) rfl rfl aU rfl ((aT.box (.tail _ (List.mem_append_right _ z1))).part (j := 0) (n := 6) rfl) rfl (.put rfl) ?_)
  refine At.dB (H2 := (r8, _) :: (m9, _) :: (fS, _) :: H) (λ X => (r8, _) :: X ++ ((m9, _) :: (fS, _) :: H)) (.cons .id) rfl aab (λ aHU Kl amJ => ?_)
  replace ay := ay.mono Kl
  replace aF := aF.mono Kl
  replace hG := hG.mono Kl
  obtain ⟨dX, mG, hM⟩ := ao hM
  refine At.cv Pv (T9 (⟨x0.aE, ⟨x0.aa.an, x0.aa.ax⟩, x0.az, fA, x0.aO⟩ : aq) hG ay amJ aF mG) ?_
  rintro _ wF _ ⟨eA, rfl, aA1, aA2, aA3, aaV, aaW, aaX, rfl⟩
  refine vs 2 ?_
  refine At.s rfl rfl (Ox.bp (cs' := #[_, _, _, _, _, _]) rfl rfl rfl aU rfl (ak rfl (ak rfl (ak rfl (ak aaV.one (ak aaW.one (ak aaX.one aW)))))) (.there .here) rfl rfl rfl (.refl _) ?_)
  refine vs 1 ?_
  refine er ?_
  obtain rfl := af hM
  exact rt Tryz.func40 (.agg rfl aU rfl (aT.box z1) (.tmp rfl .nil)) (so (so (so sr))) (hk _ _ _ ⟨((((jj.trans Ch).trans jF).trans Kl).trans eA), rfl, aA1, aA2, aA3, aaV, aaW, aaX, rfl⟩)
 intro w6
 refine At.dw BH mixed ?_
 refine tN 0 [_, _, _, _, _, _] 0 6 aU z1 ?_
 refine Any.tk 1 rfl pp (λ R' H' hR hS => Ox.build (cells := #[_, _, _, _, _, _]) rfl pV rfl (bf rfl rfl rfl rfl aY) rfl (.one rfl) ⟨rfl, rfl, rfl⟩) ?_
 refine Any.tk 2 rfl pp (λ R' H' hR hS => Ox.qj (z := (List.toArray ([] ++ ([false, false, false, false, false].map Value.bool ++ [])))) rfl qg rfl (.one rfl) ⟨rfl, rfl, rfl⟩) ?_
 refine Any.vs 1 [3] rfl ?_
 refine tl 4 4 bL z1 ?_
 refine Any.vs 1 [6] rfl ?_
 refine Any.acG (i := 5) (j := 7) (l := 12) (ra := [7, 8, 9, 10, 11, 12, 13, 14]) (rb := [5, 8, 9, 10, 11, 12, 13, 14]) (rc := [5, 7, 8, 9, 10, 11, 13, 14]) rfl rfl rfl (by decide +kernel) rfl rfl rfl (by decide) rfl rfl rfl ?_ ?_ ?_
 ·refine  (Ox.dO rfl rfl rfl rfl fU rfl rfl ((fX [false, false, false, false, false] x0.Out rfl aB.rd oD).mono ?_))
  rintro _ _ _ ⟨rfl, rfl, pJ, rfl⟩
  refine ⟨_, (.put rfl), ⟨rr, ka, ?_⟩⟩
  refine tw 7 12 ?_ ?_
  ·refine  (aR.to (Ox.buildSlice (cells := #[_]) rfl ck rfl (by decide) cS (bf rfl rfl rfl rfl aY) rfl λ jB _ _ => ⟨_, (.put rfl), ⟨rr, (ku (so sr)), ?_⟩⟩))
   refine tw 8 12 ?_ ?_
   ·refine  (Ox.dO rfl rfl rfl rfl pe rfl rfl ((pN (⟨x0.aE, ⟨x0.aa.an, x0.aa.ax⟩, x0.az, x0.Out, x0.aO⟩ : aq) eO [x1] ay aB aF pJ (bC.lit z0 (aG.le (aG.cons (x := x1) rfl rfl aG.nil) rfl) rfl) pC).mono ?_))
    rintro _ y9 _ ⟨gZ, rfl, g8, rfl⟩
    refine ⟨_, (.put rfl), ⟨gZ, (ku (so sr)), ?_⟩⟩
    refine Any.vs 3 [9, 10, 11] rfl ?_
    refine Any.on 12 rfl rfl (aR.to (Ox.alloc (cs := (List.toArray ([] ++ ([false, false, false, false, false].map Value.bool ++ [])))) rfl j7 rfl λ gp _ _ => ⟨_, (.put rfl), ⟨rr, (ku (so (so sr))), ?_⟩⟩))
    refine Any.on 13 rfl rfl (aR.to (Ox.bp (cs' := _) rfl rfl rfl dc (by simp [g8]) (cr aW (cr (eM λ _ => rfl) aW)) .here (by simp) (eB (by simp [g8])) rfl (.refl _) ⟨rr, (ku (so (so sr))), ?_⟩))
    refine Any.vs 1 [14] rfl ?_
    exact Any.done (At.drop (so (so sr)) (w6 _ _ _ ⟨gZ, rfl, aA.sub ⟨rfl, rfl, rfl, rfl, trivial⟩⟩))
   refine  (aR.to (Ox.alloc (cs := (List.toArray ([] ++ ([false, false, false, false, false].map Value.bool ++ [])))) rfl j7 rfl λ gp _ _ => ⟨_, (.put rfl), ⟨rr, (ku (so (so sr))), ?_⟩⟩))
   refine Any.cv 8 pe (pN (⟨x0.aE, ⟨x0.aa.an, x0.aa.ax⟩, x0.az, x0.Out, x0.aO⟩ : aq) eO [x1] ay aB aF pJ (bC.lit z1 (aG.le (aG.cons (x := x1) rfl rfl aG.nil) rfl) rfl) pC) ?_
   rintro _ y9 _ ⟨gZ, rfl, g8, rfl⟩
   refine ⟨gZ, (ku (so (so sr))), ?_⟩
   refine Any.vs 3 [9, 10, 11] rfl ?_
   refine Any.on 13 rfl rfl (aR.to (Ox.bp (cs' := _) rfl rfl rfl dc (by simp [g8]) (cr aW (cr (eM λ _ => rfl) aW)) .here (by simp) (eB (by simp [g8])) rfl (.refl _) ⟨rr, (ku (so (so sr))), ?_⟩))
   refine Any.vs 1 [14] rfl ?_
   exact Any.done (At.drop (so (so sr)) (w6 _ _ _ ⟨gZ, rfl, aA.sub ⟨rfl, rfl, rfl, rfl, trivial⟩⟩))
  refine  (aR.to (Ox.alloc (cs := (List.toArray ([] ++ ([false, false, false, false, false].map Value.bool ++ [])))) rfl j7 rfl λ gp _ _ => ⟨_, (.put rfl), ⟨rr, (ku (so sr)), ?_⟩⟩))
  refine Any.on 7 rfl rfl (aR.to (Ox.buildSlice (cells := #[_]) rfl ck rfl (by decide) cS (bf rfl rfl rfl rfl aY) rfl λ jB _ _ => ⟨_, (.put rfl), ⟨rr, (ku (so (so sr))), ?_⟩⟩))
  refine Any.cv 8 pe (pN (⟨x0.aE, ⟨x0.aa.an, x0.aa.ax⟩, x0.az, x0.Out, x0.aO⟩ : aq) eO [x1] ay aB aF pJ (bC.lit z0 (aG.le (aG.cons (x := x1) rfl rfl aG.nil) rfl) rfl) pC) ?_
  rintro _ y9 _ ⟨gZ, rfl, g8, rfl⟩
  refine ⟨gZ, (ku (so (so sr))), ?_⟩
  refine Any.vs 3 [9, 10, 11] rfl ?_
  refine Any.on 13 rfl rfl (aR.to (Ox.bp (cs' := _) rfl rfl rfl dc (by simp [g8]) (cr aW (cr (eM λ _ => rfl) aW)) (.there .here) (by simp) (eB (by simp [g8])) rfl (.refl _) ⟨rr, (ku (so (so sr))), ?_⟩))
  refine Any.vs 1 [14] rfl ?_
  exact Any.done (At.drop (so (so sr)) (w6 _ _ _ ⟨gZ, rfl, aA.sub ⟨rfl, rfl, rfl, rfl, trivial⟩⟩))
 ·refine  (aR.to (Ox.buildSlice (cells := #[_]) rfl ck rfl (by decide) cS (bf rfl rfl rfl rfl aY) rfl λ jB _ _ => ⟨_, (.put rfl), ⟨rr, (ku (so sr)), ?_⟩⟩))
  refine tw 5 12 ?_ ?_
  ·refine  (Ox.dO rfl rfl rfl rfl fU rfl rfl ((fX [false, false, false, false, false] x0.Out rfl aB.rd oD).mono ?_))
   rintro _ _ _ ⟨rfl, rfl, pJ, rfl⟩
   refine ⟨_, (.put rfl), ⟨rr, (ku (so sr)), ?_⟩⟩
   refine tw 8 12 ?_ ?_
   ·refine  (Ox.dO rfl rfl rfl rfl pe rfl rfl ((pN (⟨x0.aE, ⟨x0.aa.an, x0.aa.ax⟩, x0.az, x0.Out, x0.aO⟩ : aq) eO [x1] ay aB aF pJ (bC.lit z0 (aG.le (aG.cons (x := x1) rfl rfl aG.nil) rfl) rfl) pC).mono ?_))
    rintro _ y9 _ ⟨gZ, rfl, g8, rfl⟩
    refine ⟨_, (.put rfl), ⟨gZ, (ku (so sr)), ?_⟩⟩
    refine Any.vs 3 [9, 10, 11] rfl ?_
    refine Any.on 12 rfl rfl (aR.to (Ox.alloc (cs := (List.toArray ([] ++ ([false, false, false, false, false].map Value.bool ++ [])))) rfl j7 rfl λ gp _ _ => ⟨_, (.put rfl), ⟨rr, (ku (so (so sr))), ?_⟩⟩))
    refine Any.on 13 rfl rfl (aR.to (Ox.bp (cs' := _) rfl rfl rfl dc (by simp [g8]) (cr aW (cr (eM λ _ => rfl) aW)) .here (by simp) (eB (by simp [g8])) rfl (.refl _) ⟨rr, (ku (so (so sr))), ?_⟩))
    refine Any.vs 1 [14] rfl ?_
    exact Any.done (At.drop (so (so sr)) (w6 _ _ _ ⟨gZ, rfl, aA.sub ⟨rfl, rfl, rfl, rfl, trivial⟩⟩))
   refine  (aR.to (Ox.alloc (cs := (List.toArray ([] ++ ([false, false, false, false, false].map Value.bool ++ [])))) rfl j7 rfl λ gp _ _ => ⟨_, (.put rfl), ⟨rr, (ku (so (so sr))), ?_⟩⟩))
   refine Any.cv 8 pe (pN (⟨x0.aE, ⟨x0.aa.an, x0.aa.ax⟩, x0.az, x0.Out, x0.aO⟩ : aq) eO [x1] ay aB aF pJ (bC.lit z1 (aG.le (aG.cons (x := x1) rfl rfl aG.nil) rfl) rfl) pC) ?_
   rintro _ y9 _ ⟨gZ, rfl, g8, rfl⟩
   refine ⟨gZ, (ku (so (so sr))), ?_⟩
   refine Any.vs 3 [9, 10, 11] rfl ?_
   refine Any.on 13 rfl rfl (aR.to (Ox.bp (cs' := _) rfl rfl rfl dc (by simp [g8]) (cr aW (cr (eM λ _ => rfl) aW)) .here (by simp) (eB (by simp [g8])) rfl (.refl _) ⟨rr, (ku (so (so sr))), ?_⟩))
   refine Any.vs 1 [14] rfl ?_
   exact Any.done (At.drop (so (so sr)) (w6 _ _ _ ⟨gZ, rfl, aA.sub ⟨rfl, rfl, rfl, rfl, trivial⟩⟩))
  refine  (aR.to (Ox.alloc (cs := (List.toArray ([] ++ ([false, false, false, false, false].map Value.bool ++ [])))) rfl j7 rfl λ gp _ _ => ⟨_, (.put rfl), ⟨rr, (ku (so (so sr))), ?_⟩⟩))
  refine Any.cv 5 fU (fX [false, false, false, false, false] x0.Out rfl aB.rd oD) ?_
  rintro _ _ _ ⟨rfl, rfl, pJ, rfl⟩
  refine ⟨rr, (ku (so (so sr))), ?_⟩
  refine Any.cv 8 pe (pN (⟨x0.aE, ⟨x0.aa.an, x0.aa.ax⟩, x0.az, x0.Out, x0.aO⟩ : aq) eO [x1] ay aB aF pJ (bC.lit z1 (aG.le (aG.cons (x := x1) rfl rfl aG.nil) rfl) rfl) pC) ?_
  rintro _ y9 _ ⟨gZ, rfl, g8, rfl⟩
  refine ⟨gZ, (ku (so (so sr))), ?_⟩
  refine Any.vs 3 [9, 10, 11] rfl ?_
  refine Any.on 13 rfl rfl (aR.to (Ox.bp (cs' := _) rfl rfl rfl dc (by simp [g8]) (cr aW (cr (eM λ _ => rfl) aW)) .here (by simp) (eB (by simp [g8])) rfl (.refl _) ⟨rr, (ku (so (so sr))), ?_⟩))
  refine Any.vs 1 [14] rfl ?_
  exact Any.done (At.drop (so (so sr)) (w6 _ _ _ ⟨gZ, rfl, aA.sub ⟨rfl, rfl, rfl, rfl, trivial⟩⟩))
 refine  (aR.to (Ox.alloc (cs := (List.toArray ([] ++ ([false, false, false, false, false].map Value.bool ++ [])))) rfl j7 rfl λ gp _ _ => ⟨_, (.put rfl), ⟨rr, (ku (so sr)), ?_⟩⟩))
 refine tw 5 7 ?_ ?_
 ·refine  (Ox.dO rfl rfl rfl rfl fU rfl rfl ((fX [false, false, false, false, false] x0.Out rfl aB.rd oD).mono ?_))
  rintro _ _ _ ⟨rfl, rfl, pJ, rfl⟩
  refine ⟨_, (.put rfl), ⟨rr, (ku (so sr)), ?_⟩⟩
  refine Any.on 7 rfl rfl (aR.to (Ox.buildSlice (cells := #[_]) rfl ck rfl (by decide) cS (bf rfl rfl rfl rfl aY) rfl λ jB _ _ => ⟨_, (.put rfl), ⟨rr, (ku (so (so sr))), ?_⟩⟩))
  refine Any.cv 8 pe (pN (⟨x0.aE, ⟨x0.aa.an, x0.aa.ax⟩, x0.az, x0.Out, x0.aO⟩ : aq) eO [x1] ay aB aF pJ (bC.lit z0 (aG.le (aG.cons (x := x1) rfl rfl aG.nil) rfl) rfl) pC) ?_
  rintro _ y9 _ ⟨gZ, rfl, g8, rfl⟩
  refine ⟨gZ, (ku (so (so sr))), ?_⟩
  refine Any.vs 3 [9, 10, 11] rfl ?_
  refine Any.on 13 rfl rfl (aR.to (Ox.bp (cs' := _) rfl rfl rfl dc (by simp [g8]) (cr aW (cr (eM λ _ => rfl) aW)) (.there .here) (by simp) (eB (by simp [g8])) rfl (.refl _) ⟨rr, (ku (so (so sr))), ?_⟩))
  refine Any.vs 1 [14] rfl ?_
  exact Any.done (At.drop (so (so sr)) (w6 _ _ _ ⟨gZ, rfl, aA.sub ⟨rfl, rfl, rfl, rfl, trivial⟩⟩))
 refine  (aR.to (Ox.buildSlice (cells := #[_]) rfl ck rfl (by decide) cS (bf rfl rfl rfl rfl aY) rfl λ jB _ _ => ⟨_, (.put rfl), ⟨rr, (ku (so (so sr))), ?_⟩⟩))
 refine Any.cv 5 fU (fX [false, false, false, false, false] x0.Out rfl aB.rd oD) ?_
 rintro _ _ _ ⟨rfl, rfl, pJ, rfl⟩
 refine ⟨rr, (ku (so (so sr))), ?_⟩
 refine Any.cv 8 pe (pN (⟨x0.aE, ⟨x0.aa.an, x0.aa.ax⟩, x0.az, x0.Out, x0.aO⟩ : aq) eO [x1] ay aB aF pJ (bC.lit z0 (aG.le (aG.cons (x := x1) rfl rfl aG.nil) rfl) rfl) pC) ?_
 rintro _ y9 _ ⟨gZ, rfl, g8, rfl⟩
 refine ⟨gZ, (ku (so (so sr))), ?_⟩
 refine Any.vs 3 [9, 10, 11] rfl ?_
 refine Any.on 13 rfl rfl (aR.to (Ox.bp (cs' := _) rfl rfl rfl dc (by simp [g8]) (cr aW (cr (eM λ _ => rfl) aW)) (.there .here) (by simp) (eB (by simp [g8])) rfl (.refl _) ⟨rr, (ku (so (so sr))), ?_⟩))
 refine Any.vs 1 [14] rfl ?_
 exact Any.done (At.drop (so (so sr)) (w6 _ _ _ ⟨gZ, rfl, aA.sub ⟨rfl, rfl, rfl, rfl, trivial⟩⟩))
theorem awQ (x0 : aq) (x1 : Int) {aC aD aH : Value} {b1 : Nat} (ay : aj bm 5 R aC x0.az) (aB : aj CZ 1 R aD x0.Out) (aF : aj bh 2 R aH x0.aO) (cN : aT R H b1 0 [iv x1]) {r : Int} (hM : CH x0 x1 = some r) : aJ ag 127 #[.agg #[iv x0.aE, iv x0.aa.an, iv x0.aa.ax, aC, aD, aH], .pointer (some ⟨b1, 0, none⟩)] R H (λ v R' H' => R = R' ∧ H = H' ∧ v = iv r) := by
 unfold CH at hM
 refine aJ.aX Tryz.func127 rfl (n := 8) rfl rfl λ fr cs hk => ?_
 refine sg aQ ?_
 refine bx λ BY => ?_
 refine vs 1 ?_
 refine es ?_
 refine sg bn ?_
 refine lN [_, _, _, _, _, _] 0 6 ew z0 ?_
 refine At.ld bg ((cN.sub (su (so sr))).one (j := 0) rfl) ?_
 obtain ⟨oO, Am, hM⟩ := ao hM
 refine At.cv Px (Ub x0 x1 ay aB aF Am) ?_
 rintro _ _ _ ⟨rfl, rfl, rfl⟩
 refine vs 1 ?_
 refine er ?_
 refine sc hM (λ mC hM => ?_) (λ mC hM => ?_)
 ·refine sg aL ?_
  refine vs 1 ?_
  refine er ?_
  obtain rfl := af hM
  exact rt Tryz.func127 (.tmp rfl .nil) (so sr) (hk _ _ _ ⟨rfl, rfl, rfl⟩)
 refine sp ?_
 refine sg aL ?_
 refine vs 1 ?_
 refine er ?_
 obtain rfl := af hM
 exact rt Tryz.func127 (.tmp rfl .nil) (so sr) (hk _ _ _ ⟨rfl, rfl, rfl⟩)
theorem axq (x0 : Int) (x1 : Int)  {r : Bool} (hM : Ho x0 x1 = some r) : aJ ag 183 #[iv x0, iv x1] R H (λ v R' H' => R = R' ∧ H = H' ∧ v = .bool r) := by
 unfold Ho at hM
 refine aJ.aX Tryz.func183 rfl (n := 17) rfl rfl λ fr cs hk => ?_
 refine sg aL ?_
 refine vs 1 ?_
 refine nx BL ?_
 refine vs 1 ?_
 obtain ⟨oO, Am, hM⟩ := ao hM
 refine At.cv JX (Ld x0  Am) ?_
 rintro _ _ _ ⟨rfl, rfl, rfl⟩
 refine vs 1 ?_
 refine bA hM (λ mC hM => ?_) (λ mC hM => ?_)
 ·refine At.kn 7 mC ?_
  refine vs 1 ?_
  obtain ⟨fR, qE, hM⟩ := ao hM
  refine At.cv JX (Ld x1  qE) ?_
  rintro _ _ _ ⟨rfl, rfl, rfl⟩
  refine vs 3 ?_
  refine bA hM (λ kF hM => ?_) (λ kF hM => ?_)
  ·refine At.kn 12 kF ?_
   refine vs 5 ?_
   refine er ?_
   obtain rfl := af hM
   exact rt Tryz.func183 (.tmp rfl .nil) sr (hk _ _ _ ⟨rfl, rfl, rfl⟩)
  refine At.kn 12 kF ?_
  refine vs 5 ?_
  refine er ?_
  obtain rfl := af hM
  exact rt Tryz.func183 (.tmp rfl .nil) sr (hk _ _ _ ⟨rfl, rfl, rfl⟩)
 refine At.kn 7 mC ?_
 refine vs 10 ?_
 refine er ?_
 obtain rfl := af hM
 exact rt Tryz.func183 (.tmp rfl .nil) sr (hk _ _ _ ⟨rfl, rfl, rfl⟩)
theorem axp (x0 : (List Int)) (x1 : Int) (x2 : Int) {v0 : Value} {rU : au} (Co : aZ CZ 1 3 R v0 x0 rU) {r : (List Int)} (hM : Hl x0 x1 x2 = some r) : aJ ag 177 #[v0, iv x1, iv x2] R (rU ++ H) (λ v R' H' => ∃ cH, (R = R' ∧ aZ CZ 1 3 R' v0 r cH ∧ v = .tuple #[]) ∧ H' = cH ++ H) := by
 unfold Hl at hM
 refine aJ.aX Tryz.func177 rfl (n := 49) rfl rfl λ fr cs hk => ?_
 refine sg aS ?_
 refine vs 3 ?_
 refine er ?_
 refine At.block ?_
 refine At.c8 hM (λ (pR : ((List Int) × Int)) R' H' st' => R = R' ∧ ∃ Eu, aZ CZ 1 3 R' v0 pR.1 Eu ∧ H' = Eu ++ (H) ∧ aK st' [(0, v0), (1, iv x1), (2, iv x2), (6, iv pR.2)]) (λ (LD : (List Int)) R' H' st' => R = R' ∧ ∃ IX, aZ CZ 1 3 R' v0 LD IX ∧ H' = IX ++ (H) ∧ aK st' [(0, v0)]) 0 rfl ⟨rfl, rU, Co, rfl, aA.sub ⟨rfl, rfl, rfl, rfl, trivial⟩⟩ ?_ ?_
 rotate_right
 ·rintro pR aGp aEu aNX ⟨rfl, Eu, ZX, rfl, ap1⟩ aRd hM ag0 ajk
  refine At.sub ap1 ?_
  refine sq ?_
  refine sg aS ?_
  refine vs 3 ?_
  refine er ?_
  refine sc hM (λ ash hM => ?_) (λ ash hM => ?_)
  ·refine sp ?_
   refine sq ?_
   refine At.block ?_
   refine sg aQ ?_
   refine vs 2 ?_
   refine er ?_
   refine At.block ?_
   refine At.c8 hM (λ (fY : ((List Int) × Int)) R' H' st' => R = R' ∧ ∃ BP, aZ CZ 1 3 R' v0 fY.1 BP ∧ H' = BP ++ (H) ∧ aK st' [(0, v0), (1, iv x1), (2, iv x2), (6, iv pR.2), (7, iv fY.2)]) (λ (LJ : (List Int)) R' H' st' => R = R' ∧ ∃ IZ, aZ CZ 1 3 R' v0 LJ IZ ∧ H' = IZ ++ (H) ∧ aK st' [(0, v0), (1, iv x1), (2, iv x2), (6, iv pR.2)]) 2 rfl ⟨rfl, Eu, ZX, rfl, aA.sub ⟨rfl, rfl, rfl, rfl, rfl, trivial⟩⟩ ?_ ?_
   rotate_right
   ·rintro fY aGH aEM aOj ⟨rfl, BP, Cp, rfl, aqn⟩ DO hM ag7 ajr
    refine At.sub aqn ?_
    refine sq ?_
    refine sq ?_
    refine At.gR hM (λ (LK : Bool) R' H' st' => R = R' ∧ H' = BP ++ (H) ∧ aK st' [(0, v0), (1, iv x1), (2, iv x2), (6, iv pR.2), (7, iv fY.2), (30, .bool LK)])  ?_ ?_
    rotate_right
    ·intro Vl hM Y5
     refine At.dw BH mixed ?_
     refine Any.vs 4 [0, 1, 2, 3] rfl ?_
     refine bA hM (λ SP hM => ?_) (λ SP hM => ?_)
     ·refine Any.known (t := 19) rfl SP ?_
      refine Any.vs 2 [4, 5] rfl ?_
      obtain ⟨Vo, auQ, hM⟩ := ao hM
      obtain ⟨DS, Tq, hM⟩ := ao hM
      obtain ⟨adJ, auS, hM⟩ := ao hM
      obtain ⟨aJT, aMU, _, rfl, alQ, anF⟩ := (Cp.rd (λ _ h => (List.mem_append_left _ h))).elem cL auQ
      refine Any.tk 6 rfl pp (λ R' H' hR hS => Ox.bq rfl rfl rfl anF rfl (.one rfl) ⟨rfl, rfl, rfl⟩) ?_
      refine Any.tk 7 rfl pp (λ R' H' hR hS => Ox.bV rfl rfl bg (((alQ.le hR).sub (λ p h => hS p (pp p h))).one (j := 0) rfl) rfl (.one rfl) ⟨rfl, rfl, rfl⟩) ?_
      refine Any.vs 3 [8, 9, 10] rfl ?_
      obtain ⟨aJU, aMV, _, rfl, alR, anG⟩ := (Cp.rd (λ _ h => (List.mem_append_left _ h))).elem cL Tq
      refine Any.tk 11 rfl pp (λ R' H' hR hS => Ox.bq rfl rfl rfl anG rfl (.one rfl) ⟨rfl, rfl, rfl⟩) ?_
      refine Any.tk 12 rfl pp (λ R' H' hR hS => Ox.bV rfl rfl bg (((alR.le hR).sub (λ p h => hS p (pp p h))).one (j := 0) rfl) rfl (.one rfl) ⟨rfl, rfl, rfl⟩) ?_
      refine Any.cv 13 aiO (axq Vo DS  auS) ?_
      rintro _ _ _ ⟨rfl, rfl, rfl⟩
      refine kp ?_
      refine Any.vs 1 [14] rfl ?_
      refine Any.done ?_
      exact Y5 _ (af hM).symm _ _ _ ⟨rfl, rfl, aA.sub ⟨rfl, rfl, rfl, rfl, rfl, rfl, trivial⟩⟩
     refine Any.known (t := 19) rfl SP ?_
     refine Any.vs 11 [4, 5, 6, 7, 8, 9, 10, 11, 12, 13, 14] rfl ?_
     refine Any.done ?_
     exact Y5 _ (af hM).symm _ _ _ ⟨rfl, rfl, aA.sub ⟨rfl, rfl, rfl, rfl, rfl, rfl, trivial⟩⟩
    rintro LK aGL aEQ aOn ⟨rfl, rfl, aqr⟩ hM
    refine At.sub aqr ?_
    refine sc hM (λ asn hM => ?_) (λ asn hM => ?_)
    ·refine sp ?_
     refine sq ?_
     refine At.block ?_
     refine At.draw (n := 18) (is := [0, 1, 2, 3, 4, 5, 6, 7, 8, 9, 10, 11, 12, 13, 14, 15, 16, 17]) (many (BP ++ (H)) [(15, H), (17, H)]) mixed rfl (by decide +kernel) rfl rfl ?_
     refine Any.vs 8 [0, 1, 2, 3, 4, 5, 6, 7] rfl ?_
     obtain ⟨Bp, Tr, hM⟩ := ao hM
     obtain ⟨DT, Ts, hM⟩ := ao hM
     obtain ⟨adK, auU, hM⟩ := ao hM
     obtain ⟨aBz, auV, hM⟩ := ao hM
     obtain ⟨aJV, aMW, _, rfl, alS, anH⟩ := (Cp.rd (λ _ h => (List.mem_append_left _ h))).elem cL Tr
     refine ts 8 [9, 14, 15, 16, 17] rfl (cq rfl (cq rfl (dm (su (aP sr))))) (su (aP sr)) (λ R' H' hR hS => Ox.bq rfl rfl rfl anH rfl (.one rfl) ⟨rfl, rfl, rfl⟩) ?_
     refine ts 9 [14, 15, 16, 17] rfl (cq rfl (cq rfl (dm pp))) pp (λ R' H' hR hS => Ox.bV rfl rfl bg (((alS.le hR).sub (λ p h => hS p (pp p h))).one (j := 0) rfl) rfl (.one rfl) ⟨rfl, rfl, rfl⟩) ?_
     refine Any.vs 2 [10, 11] rfl ?_
     obtain ⟨ahR, ayw, _, rfl, QG, Q2⟩ := (Cp.rd (λ _ h => (List.mem_append_left _ h))).elem cL Ts
     refine ts 12 [13, 14, 15, 16, 17] rfl (cq rfl (cq rfl (dm (su (aP sr))))) (su (aP sr)) (λ R' H' hR hS => Ox.bq rfl rfl rfl Q2 rfl (.one rfl) ⟨rfl, rfl, rfl⟩) ?_
     refine ts 13 [14, 15, 16, 17] rfl (cq rfl (cq rfl (dm pp))) pp (λ R' H' hR hS => Ox.bV rfl rfl bg (((QG.le hR).sub (λ p h => hS p (pp p h))).one (j := 0) rfl) rfl (.one rfl) ⟨rfl, rfl, rfl⟩) ?_
     obtain ⟨aJW, aKN, _, rfl, rfl, aK9, am0, anI, aLg, avN, asQ⟩ := Cp.E5 cL auU
     refine ts 14 [15, 16, 17] rfl (cq rfl (cq rfl (dm (su (so sr))))) (su (so sr)) (λ R' H' hR hS => Ox.bq rfl rfl rfl anI rfl (.one rfl) ⟨rfl, rfl, rfl⟩) ?_
     refine Any.on 15 rfl rfl (aR.to (Ox.HL (K := CZ) (k := 1) (e := 3) (i := fY.2) (x' := Bp) (pre := []) (mid := [iv adK]) (post := []) .id rfl rfl rfl rfl acu rfl (ak rfl aW) am0 rfl rfl rfl avN asQ rfl rfl (.refl _) λ aFM ao3 => ⟨rr, (bO rfl (su (aP sr))), ?_⟩))
     obtain ⟨aJX, aKO, _, rfl, rfl, aLa, am1, anJ, aLh, avO, asR⟩ := ao3.E5 cL auV
     refine ts 16 [17] rfl (cq rfl (cq rfl (dm (su (so sr))))) (su (so sr)) (λ R' H' hR hS => Ox.bq rfl rfl rfl anJ rfl (.one rfl) ⟨rfl, rfl, rfl⟩) ?_
     refine Any.on 17 rfl rfl (aR.to (Ox.HL (K := CZ) (k := 1) (e := 3) (i := i64 (fY.2 - 1)) (x' := DT) (pre := []) (mid := [iv aBz]) (post := []) .id rfl rfl rfl rfl acu rfl (ak rfl aW) am1 rfl rfl rfl avO asR rfl rfl (.refl _) λ af7 ao4 => ⟨rr, (bO rfl (su (aP sr))), ?_⟩))
     refine Any.done ?_
     refine At.inBlock ?_
     refine At.rg aS ?_
     refine vs 3 ?_
     refine er ?_
     exact ag7 _ (af hM).symm _ _ _ ⟨rfl, af7, ao4, rfl, aA.sub ⟨rfl, rfl, rfl, rfl, rfl, trivial⟩⟩
    exact At.exit rfl (ajr _ (af hM).symm _ _ _ ⟨rfl, BP, Cp, rfl, aA.sub ⟨rfl, rfl, rfl, rfl, trivial⟩⟩)
   rintro LJ aGI aEN aOk ⟨rfl, IZ, aoI, rfl, aqo⟩ hM
   refine At.sub aqo ?_
   refine At.inBlock ?_
   refine At.rg aS ?_
   refine vs 3 ?_
   refine er ?_
   exact ag0 _ (af hM).symm _ _ _ ⟨rfl, IZ, aoI, rfl, aA.sub ⟨rfl, rfl, rfl, rfl, trivial⟩⟩
  exact At.exit rfl (ajk _ (af hM).symm _ _ _ ⟨rfl, Eu, ZX, rfl, aA.sub ⟨rfl, trivial⟩⟩)
 rintro LD aGq aEv aNY ⟨rfl, IX, aoG, rfl, ap2⟩ hM
 refine At.sub ap2 ?_
 obtain rfl := af hM
 exact At.wN Tryz.func177 .nil (J.drop sr (hk _ _ _ ⟨IX, ⟨rfl, aoG, rfl⟩, rfl⟩))
theorem axr (x0 : Int)  {r : Int} (hM : Hp x0 = some r) : aJ ag 187 #[.int .u64 x0] R H (λ v R' H' => R = R' ∧ H = H' ∧ v = iv r) := by
 unfold Hp at hM
 refine aJ.aX Tryz.func187 rfl (n := 25) rfl rfl λ fr cs hk => ?_
 refine sg aL ?_
 refine vs 1 ?_
 refine es ?_
 refine sg aQ ?_
 refine vs 2 ?_
 refine er ?_
 refine At.gR hM (λ (jm : (Int × Int)) R' H' st' => R = R' ∧ H = H' ∧ aK st' [(0, .int .u64 jm.1), (2, iv jm.2)])  ?_ ?_
 rotate_right
 ·intro cJ hM wR
  refine sc hM (λ qB hM => ?_) (λ qB hM => ?_)
  ·refine sg aS ?_
   refine vs 1 ?_
   obtain ⟨gP, sS, hM⟩ := ao hM
   refine At.s rfl rfl (Ox.shr rfl rfl rfl sS rfl (.put rfl) ?_)
   refine vs 1 ?_
   refine er ?_
   refine At.rg aL ?_
   refine vs 1 ?_
   refine er ?_
   exact wR _ (af hM).symm _ _ _ ⟨rfl, rfl, aA.sub ⟨rfl, rfl, trivial⟩⟩
  refine sp ?_
  exact wR _ (af hM).symm _ _ _ ⟨rfl, rfl, aA.sub ⟨rfl, rfl, trivial⟩⟩
 rintro jm OF N7 UP ⟨rfl, rfl, zZ⟩ hM
 refine At.sub zZ ?_
 refine sq ?_
 refine sg aQ ?_
 refine vs 2 ?_
 refine er ?_
 refine At.gR hM (λ (vl : (Int × Int)) R' H' st' => R = R' ∧ H = H' ∧ aK st' [(0, .int .u64 vl.1), (2, iv vl.2)])  ?_ ?_
 rotate_right
 ·intro jA hM Y6
  refine sc hM (λ Ad hM => ?_) (λ Ad hM => ?_)
  ·refine sg aS ?_
   refine vs 1 ?_
   obtain ⟨eO, oD, hM⟩ := ao hM
   refine At.s rfl rfl (Ox.shr rfl rfl rfl oD rfl (.put rfl) ?_)
   refine vs 1 ?_
   refine er ?_
   refine At.rg aS ?_
   refine vs 3 ?_
   refine er ?_
   exact Y6 _ (af hM).symm _ _ _ ⟨rfl, rfl, aA.sub ⟨rfl, rfl, trivial⟩⟩
  refine sp ?_
  exact Y6 _ (af hM).symm _ _ _ ⟨rfl, rfl, aA.sub ⟨rfl, rfl, trivial⟩⟩
 rintro vl aGR aEV aOu ⟨rfl, rfl, aqy⟩ hM
 refine At.sub aqy ?_
 refine sq ?_
 refine sg aQ ?_
 refine vs 2 ?_
 refine er ?_
 refine At.gR hM (λ (eU : (Int × Int)) R' H' st' => R = R' ∧ H = H' ∧ aK st' [(0, .int .u64 eU.1), (2, iv eU.2)])  ?_ ?_
 rotate_right
 ·intro nP hM sv
  refine sc hM (λ uM hM => ?_) (λ uM hM => ?_)
  ·refine sg aS ?_
   refine vs 1 ?_
   obtain ⟨oQ, Ap, hM⟩ := ao hM
   refine At.s rfl rfl (Ox.shr rfl rfl rfl Ap rfl (.put rfl) ?_)
   refine vs 1 ?_
   refine er ?_
   refine At.rg aS ?_
   refine vs 3 ?_
   refine er ?_
   exact sv _ (af hM).symm _ _ _ ⟨rfl, rfl, aA.sub ⟨rfl, rfl, trivial⟩⟩
  refine sp ?_
  exact sv _ (af hM).symm _ _ _ ⟨rfl, rfl, aA.sub ⟨rfl, rfl, trivial⟩⟩
 rintro eU Ji IV L9 ⟨rfl, rfl, uJ⟩ hM
 refine At.sub uJ ?_
 refine sg dY ?_
 refine vs 2 ?_
 refine At.s rfl rfl (Ox.wm rfl rfl Tryz.underlying204 Tryz.underlying5 rfl (.put rfl) ?_)
 obtain ⟨mS, Aq, hM⟩ := ao hM
 refine At.s rfl rfl (Ox.KZ rfl rfl rfl Tryz.underlying9 Aq rfl (.put rfl) ?_)
 refine At.s rfl rfl (Ox.wm rfl rfl Tryz.underlying5 Tryz.underlying3 rfl (.put rfl) ?_)
 refine vs 2 ?_
 refine er ?_
 obtain rfl := af hM
 exact rt Tryz.func187 (.tmp rfl .nil) sr (hk _ _ _ ⟨rfl, rfl, rfl⟩)
theorem axi (x0 : Int)  {r : Int} (hM : Hj x0 = some r) : aJ ag 170 #[.int .u64 x0] R H (λ v R' H' => R = R' ∧ H = H' ∧ v = iv r) := by
 unfold Hj at hM
 refine aJ.aX Tryz.func170 rfl (n := 8) rfl rfl λ fr cs hk => ?_
 refine sg aL ?_
 refine vs 1 ?_
 refine es ?_
 refine At.cond_false rfl ?_
 refine sp ?_
 refine sg aS ?_
 refine vs 1 ?_
 obtain ⟨cA, ff, hM⟩ := ao hM
 refine At.cv aiP (axr x0  ff) ?_
 rintro _ _ _ ⟨rfl, rfl, rfl⟩
 refine vs 1 ?_
 refine er ?_
 obtain rfl := af hM
 exact rt Tryz.func170 (.tmp rfl .nil) sr (hk _ _ _ ⟨rfl, rfl, rfl⟩)
theorem axh (x0 : (List Int)) (x1 : Int) (x2 : Int) (x3 : Int) {v0 : Value} {rU : au} (Co : aZ CZ 1 3 R v0 x0 rU) {r : (List Int)} (hM : Hi x0 x1 x2 x3 = some r) : aJ ag 169 #[v0, iv x1, iv x2, iv x3] R (rU ++ H) (λ v R' H' => ∃ cH, (R = R' ∧ aZ CZ 1 3 R' v0 r cH ∧ v = .tuple #[]) ∧ H' = cH ++ H) := by
 unfold Hi at hM
 refine aJ.aX Tryz.func169 rfl (n := 134) rfl rfl λ fr cs hk => ?_
 refine sg aL ?_
 refine vs 1 ?_
 refine nx aL ?_
 refine vs 1 ?_
 refine er ?_
 refine At.block ?_
 refine At.awA hM (λ (s31 : Unit) R' H' st' => R = R' ∧ H' = rU ++ (H) ∧ aK st' [(0, v0), (1, iv x1), (2, iv x2), (3, iv x3), (8, .bool true), (9, .bool true)])   ⟨rfl, rfl, aA.sub ⟨rfl, rfl, rfl, rfl, rfl, rfl, trivial⟩⟩ ?_
 rintro s31 R31 H31 aOi ⟨rfl, rfl, aqm⟩ eH hM aIU  ayn
 refine At.sub aqm ?_
 refine At.block ?_
 refine sg bn ?_
 refine vs 4 ?_
 refine es ?_
 refine sg aQ ?_
 refine vs 2 ?_
 refine er ?_
 refine sc hM (λ SR hM => ?_) (λ SR hM => ?_)
 ·refine sg bn ?_
  refine vs 3 ?_
  obtain ⟨jA, uV, hM⟩ := ao hM
  refine At.step rfl rfl rfl (Ox.dO rfl rfl rfl rfl aiN rfl rfl ((aJ.hole (G := (λ X => X ++ (H))) .id (axp x0 x1 x2 Co uV)).mono ?_))
  rintro _ _ _ ⟨agf, ⟨rfl, ape, rfl⟩, rfl⟩
  refine ⟨_, (.put rfl), ?_⟩
  refine er ?_
  replace hM := ayn _ (af hM).symm
  obtain rfl := af hM
  exact rt Tryz.func169 .nil sr (hk _ _ _ ⟨agf, ⟨rfl, ape, rfl⟩, rfl⟩)
 refine sp ?_
 refine sq ?_
 refine sq ?_
 cases hM
theorem aw3 (x0 : (List Int)) {v0 : Value} {rU : au} (Co : aZ CZ 1 3 R v0 x0 rU) {r : (List Int)} (hM : CU x0 = some r) : aJ ag 155 #[v0] R (rU ++ H) (λ v R' H' => ∃ cH, (R = R' ∧ aZ CZ 1 3 R' v0 r cH ∧ v = .tuple #[]) ∧ H' = cH ++ H) := by
 unfold CU at hM
 refine aJ.aX Tryz.func155 rfl (n := 11) rfl rfl λ fr cs hk => ?_
 refine sg aS ?_
 refine vs 1 ?_
 refine At.s rfl rfl (Ox.u0 rfl rfl Co Tryz.underlying25 rfl (.put rfl) ?_)
 refine vs 1 ?_
 refine er ?_
 refine At.rg dy ?_
 refine vs 3 ?_
 refine At.s rfl rfl (Ox.wm rfl rfl Tryz.underlying3 Tryz.underlying189 rfl (.put rfl) ?_)
 obtain ⟨M0, atK, hM⟩ := ao hM
 refine At.cv aiI (axi (IntKind.wrap .u64 (x0.length : Int))  atK) ?_
 rintro _ _ _ ⟨rfl, rfl, rfl⟩
 obtain ⟨ig, lp, hM⟩ := ao hM
 refine At.step rfl rfl rfl (Ox.dO rfl rfl rfl rfl aiH rfl rfl ((aJ.hole (G := (λ X => X ++ (H))) .id (axh x0 0 (x0.length : Int) M0 Co lp)).mono ?_))
 rintro _ _ _ ⟨aga, ⟨rfl, ao9, rfl⟩, rfl⟩
 refine ⟨_, (.put rfl), ?_⟩
 refine er ?_
 obtain rfl := af hM
 exact At.wN Tryz.func155 .nil (J.drop sr (hk _ _ _ ⟨aga, ⟨rfl, ao9, rfl⟩, rfl⟩))
theorem aw4 (x0 : (List Int)) {v0 : Value} (h0 : aj CZ 1 R v0 x0) {r : (List Int)} (hM : CV x0 = some r) : aJ ag 156 #[v0] R H (λ v R' H' => R = R' ∧ H = H' ∧ ∃ bU, aj CZ 1 R' bU r ∧ v = bU) := by
 unfold CV at hM
 refine aJ.aX Tryz.func156 rfl (n := 61) rfl rfl λ fr cs hk => ?_
 refine sg aL ?_
 refine vs 1 ?_
 refine es ?_
 refine sg aS ?_
 refine vs 1 ?_
 refine ls h0 Tryz.underlying25 ?_
 refine vs 1 ?_
 refine er ?_
 refine sc hM (λ Ad hM => ?_) (λ Ad hM => ?_)
 ·refine sg aQ ?_
  refine vs 2 ?_
  refine er ?_
  obtain rfl := af hM
  exact rt Tryz.func156 (.tmp rfl .nil) sr (hk _ _ _ ⟨rfl, rfl, v0, h0, rfl⟩)
 refine sp ?_
 refine sq ?_
 refine sg aL ?_
 refine vs 1 ?_
 refine er ?_
 refine At.block ?_
 refine At.c8 hM (λ (fZ : Int) R' H' st' => R = R' ∧ H = H' ∧ aK st' [(0, v0), (3, iv fZ)]) (λ (pO : Unit) R' H' st' => R = R' ∧ H = H' ∧ aK st' [(0, v0)]) 0 rfl ⟨rfl, rfl, aA.sub ⟨rfl, rfl, trivial⟩⟩ ?_ ?_
 rotate_right
 ·rintro fZ OG WE azK ⟨rfl, rfl, RN⟩ eO hM BU Fa
  refine At.sub RN ?_
  refine sq ?_
  refine sg bn ?_
  refine vs 2 ?_
  refine ls h0 Tryz.underlying25 ?_
  refine vs 1 ?_
  refine er ?_
  refine sc hM (λ Gm hM => ?_) (λ Gm hM => ?_)
  ·refine sp ?_
   refine sq ?_
   refine At.block ?_
   refine sq ?_
   refine At.dw mM mixed ?_
   refine Any.vs 2 [0, 1] rfl ?_
   obtain ⟨DU, TA, hM⟩ := ao hM
   obtain ⟨di, ny, hM⟩ := ao hM
   obtain ⟨aJ7, aM6, _, rfl, al2, anT⟩ := h0.elem cL TA
   refine Any.tk 2 rfl pp (λ R' H' hR hS => Ox.bq rfl rfl rfl anT rfl (.one rfl) ⟨rfl, rfl, rfl⟩) ?_
   refine Any.tk 3 rfl pp (λ R' H' hR hS => Ox.bV rfl rfl bg ((al2.up hR).one (j := 0) rfl) rfl (.one rfl) ⟨rfl, rfl, rfl⟩) ?_
   refine Any.vs 3 [4, 5, 6] rfl ?_
   obtain ⟨ahV, ayz, _, rfl, QJ, Q5⟩ := h0.elem cL ny
   refine Any.tk 7 rfl pp (λ R' H' hR hS => Ox.bq rfl rfl rfl Q5 rfl (.one rfl) ⟨rfl, rfl, rfl⟩) ?_
   refine Any.tk 8 rfl pp (λ R' H' hR hS => Ox.bV rfl rfl bg ((QJ.up hR).one (j := 0) rfl) rfl (.one rfl) ⟨rfl, rfl, rfl⟩) ?_
   refine Any.vs 1 [9] rfl ?_
   refine Any.done ?_
   refine sc hM (λ Gp hM => ?_) (λ Gp hM => ?_)
   ·refine sq ?_
    cases hM
   refine sp ?_
   refine At.inBlock ?_
   refine At.rg aS ?_
   refine vs 3 ?_
   refine er ?_
   exact BU _ (af hM).symm _ _ _ ⟨rfl, rfl, aA.sub ⟨rfl, rfl, trivial⟩⟩
  exact At.exit rfl (Fa _ (af hM).symm _ _ _ ⟨rfl, rfl, aA.sub ⟨rfl, trivial⟩⟩)
 rintro pO W3 af0 azL ⟨rfl, rfl, RO⟩ hM
 refine At.sub RO ?_
 refine sg aQ ?_
 refine vs 2 ?_
 refine er ?_
 obtain rfl := af hM
 exact rt Tryz.func156 (.tmp rfl .nil) sr (hk _ _ _ ⟨rfl, rfl, v0, h0, rfl⟩)
theorem aby (x0 : cW) (x1 : (bu → Option Int)) {aC aD aH ie jq v1 : Value} (_ : aj bm 5 R aC x0.book.az) (_ : aj CZ 1 R aD x0.book.Out) (_ : aj bh 2 R aH x0.book.aO) (lZ : aj fL 6 R ie x0.dR) (_ : m5 R jq x0.nL) (h1 : n4 ag R H (jR fL) (VI .i64) v1 x1) {r : (List Int)} (hM : CJ x0 x1 = some r) : aJ ag 128 #[.agg #[iv x0.book.aE, iv x0.book.aa.an, iv x0.book.aa.ax, aC, aD, aH, ie, jq], v1] R H (λ v R' H' => aN R R' ∧ H = H' ∧ ∃ bU, aj CZ 1 R' bU r ∧ v = bU) := by
 unfold CJ at hM
 refine aJ.aX Tryz.func128 rfl (n := 26) rfl rfl λ fr cs hk => ?_
 refine sg aQ ?_
 refine bx λ lX => ?_
 refine vs 1 ?_
 refine nx aL ?_
 refine vs 1 ?_
 refine es ?_
 refine sg bn ?_
 refine vs 1 ?_
 refine ld 6 qT z0 ?_
 refine ls lZ Tryz.underlying103 ?_
 refine vs 1 ?_
 refine er ?_
 refine At.block ?_
 refine At.drop (H' := H) (so sr) ?_
 refine At.c8 hM (λ (mO : ((List Int) × Int)) R' H' st' => aN R R' ∧ ∃ Mv I1, aZ CZ 1 3 R' Mv mO.1 I1 ∧ H' = I1 ++ (H) ∧ aK st' [(1, v1), (5, Mv), (9, ie), (10, iv (x0.dR.length : Int)), (11, iv mO.2)]) (λ (A5 : (List Int)) R' H' st' => aN R R' ∧ ∃ U0 Oj, aZ CZ 1 3 R' U0 A5 Oj ∧ H' = Oj ++ (H) ∧ aK st' [(5, U0)]) 0 rfl ⟨rr, .slice none 0 0, [], aZ.nil, rfl, aA.sub ⟨rfl, rfl, rfl, rfl, rfl, trivial⟩⟩ ?_ ?_
 rotate_right
 ·rintro mO R50 H50 aOD ⟨Kf, Mv, I1, KC, rfl, aqH⟩ oQ hM ahc ajC
  refine At.sub aqH ?_
  replace lZ := lZ.mono Kf
  replace h1 := h1.up Kf pp
  refine sg aL ?_
  refine vs 1 ?_
  refine es ?_
  refine sc hM (λ Ah hM => ?_) (λ Ah hM => ?_)
  ·refine sp ?_
   refine sq ?_
   refine At.block ?_
   refine sg bn ?_
   obtain ⟨iJ, qL, hM⟩ := ao hM
   obtain ⟨ahX, ayB, _, ⟨AD, rfl⟩, QL, Q7⟩ := lZ.elem L7 qL
   refine At.s rfl rfl (Ox.bq rfl rfl rfl Q7 rfl (.put rfl) ?_)
   refine At.s rfl rfl (Ox.bP (vs := _) rfl rfl eP (by simp [AD]) (QL.any.part (j := 0) (n := 6) (eE (by simp [AD]))) rfl (.put rfl) ?_)
   refine At.s rfl rfl (Ox.alloc (cs := (List.toArray ([iv 0] ++ ([0, 0, 0, 0, 0].map (Value.int .i64) ++ [])))) rfl yo rfl λ b71 _ _ => ⟨_, (.put rfl), ?_⟩)
   refine At.s rfl rfl (Ox.bp (cs' := _) rfl rfl rfl eP (by simp [AD]) (cr (ak rfl aW) (cr (eM λ _ => rfl) aW)) .here (by simp) (eB (by simp [AD])) rfl (.refl _) ?_)
   refine er ?_
   refine At.rg dY ?_
   refine vs 2 ?_
   refine At.s rfl rfl (Ox.bP (vs := _) rfl rfl eP (by simp [AD]) ((aT.box z0).part (j := 0) (n := 6) (eE (by simp [AD]))) rfl (.put rfl) ?_)
   obtain ⟨gC, GO, hM⟩ := ao hM
   refine At.step rfl rfl rfl (Ox.B2 h1 rfl rfl rfl ⟨_, rfl, ⟨AD, rfl⟩⟩ GO rfl (su (so (aP sr))) ?_)
   rintro _ aIQ Qr rfl
   replace h1 := h1.up Qr pp
   replace KC := KC.mono Qr
   refine ⟨_, (.put rfl), ?_⟩
   refine At.s rfl rfl (Ox.buildSlice (cells := #[_]) rfl ck rfl (by decide) cS (bf rfl rfl rfl rfl aY) rfl λ wK _ _ => ⟨_, (.put rfl), ?_⟩)
   obtain ⟨jw, uY, hM⟩ := ao hM
   refine At.s rfl rfl (Ox.append (K := CZ) (λ X => (wK, _) :: (b71, _) :: X ++ (H)) rfl rfl rfl cR Tryz.underlying25 (by simp) (.cons (.cons .id)) KC (cE.lit z0 (aG.le (aG.cons (x := gC) rfl rfl aG.nil) rfl) rfl) uY rfl λ tA Oy uG => ⟨_, (.put rfl), ?_⟩)
   refine vs 1 ?_
   refine er ?_
   refine At.inBlock ?_
   refine At.rg aQ ?_
   refine vs 2 ?_
   refine er ?_
   exact At.drop (so (so sr)) (ahc _ (af hM).symm _ _ _ ⟨(Kf.trans Qr), tA, Oy, uG, rfl, aA.sub ⟨rfl, rfl, rfl, rfl, rfl, trivial⟩⟩)
  exact At.exit rfl (ajC _ (af hM).symm _ _ _ ⟨Kf, Mv, I1, KC, rfl, aA.sub ⟨rfl, trivial⟩⟩)
 rintro A5 aGW aE4 aOG ⟨akI, U0, Oj, aoQ, rfl, aqK⟩ hM
 refine At.sub aqK ?_
 refine sg aQ ?_
 refine vs 1 ?_
 obtain ⟨iY, pG, hM⟩ := ao hM
 refine At.step rfl rfl rfl (Ox.dO rfl rfl rfl rfl aiw rfl rfl ((aJ.hole (G := (λ X => X ++ (H))) .id (aw3 A5 aoQ pG)).mono ?_))
 rintro _ _ _ ⟨uc, ⟨rfl, qz, rfl⟩, rfl⟩
 refine ⟨_, (.put rfl), ?_⟩
 refine nx aS ?_
 refine vs 1 ?_
 refine At.dB (H2 := H) (λ X => X ++ (H)) .id rfl qz (λ aHZ ak0 amO => ?_)
 obtain ⟨nR, Au, hM⟩ := ao hM
 refine At.cv aix (aw4 iY amO Au) ?_
 rintro aBn _ _ ⟨rfl, rfl, _, avj, rfl⟩
 refine vs 1 ?_
 refine er ?_
 obtain rfl := af hM
 exact rt Tryz.func128 (.tmp rfl .nil) sr (hk _ _ _ ⟨(akI.trans ak0), rfl, aBn, avj, rfl⟩)
theorem awR (x0 : bu) (x1 : Int) {b1 : Nat} (gx : x0.weights.length = 5) (cN : aT R H b1 0 [iv x1]) {r : Int} (hM : CL x0 x1 = some r) : aJ ag 129 #[.agg (List.toArray ([iv x0.fB] ++ (x0.weights.map (Value.int .i64) ++ []))), .pointer (some ⟨b1, 0, none⟩)] R H (λ v R' H' => R = R' ∧ H = H' ∧ v = iv r) := by
 unfold CL at hM
 refine aJ.aX Tryz.func129 rfl (n := 8) rfl rfl λ fr cs hk => ?_
 refine sg aQ ?_
 refine bx λ jU => ?_
 refine vs 1 ?_
 refine nx bT ?_
 refine At.ld bg ((cN.sub (su (so sr))).one (j := 0) rfl) ?_
 refine vs 1 ?_
 obtain ⟨ig, lp, hM⟩ := ao hM
 refine At.s rfl rfl (Ox.bq rfl rfl rfl (sW EX gx lp) rfl (.put rfl) ?_)
 refine At.ld bg ((aT.box z0).arr lp rfl) ?_
 refine vs 1 ?_
 refine er ?_
 obtain rfl := af hM
 exact rt Tryz.func129 (.tmp rfl .nil) (so sr) (hk _ _ _ ⟨rfl, rfl, rfl⟩)
theorem axK (x0 : aq) (x1 : Int) {aC aD aH : Value} (hG : fM R) (ay : aj bm 5 R aC x0.az) (aB : aj CZ 1 R aD x0.Out) (aF : aj bh 2 R aH x0.aO) {r : ((List Int) × Int)} (hM : C3 x0 x1 = some r) : aJ ag 43 #[.agg #[iv x0.aE, iv x0.aa.an, iv x0.aa.ax, aC, aD, aH], iv x1] R H (λ v R' H' => aN R R' ∧ H = H' ∧ ∃ bU, aj CZ 1 R' bU r.1 ∧ v = .tuple #[bU, iv r.2]) := by
 unfold C3 at hM
 refine aJ.aX Tryz.func43 rfl (n := 20) rfl rfl λ fr cs hk => ?_
 refine sg bn ?_
 refine bx λ jV => ?_
 refine At.s rfl rfl (Ox.uk rfl rfl rfl rfl λ gJ _ _ => ⟨_, (.put rfl), ?_⟩)
 refine vs 2 ?_
 refine nx gd ?_
 refine lN [_, _, _, _, _, _] 0 6 aU z1 ?_
 refine At.s rfl rfl (Ox.makeFunc (vs := #[]) (us := #[_]) rfl rfl rfl rfl (.put rfl) ?_)
 obtain ⟨ei, uS, hM⟩ := ao hM
 refine At.cv oe (oI x0 (λ y => CH y x1) hG ay aB aF ⟨127, #[], #[_], rfl, aij, λ R' H' hR hH y r va hA hr => by obtain ⟨_, rfl, ⟨pZ, oN, p5, gv, fN, gw, rfl⟩⟩ := hA; exact (awQ y x1 gv fN gw (aT.box (hH _ z0)) hr).mono λ _ _ _ ⟨h1, h2, h3⟩ => ⟨h1 ▸ rr, h2.symm, h3⟩⟩ uS) ?_
 rintro _ Jk _ ⟨lf, agd, aAz, aAA, aAB, aAC, aAD, sH, sI, sJ, sK, GH, rfl, rfl⟩
 refine vs 3 ?_
 refine At.s rfl rfl (Ox.alloc (cs := #[iv 0, iv 0, iv 0, .slice none 0 0, .slice none 0 0, .slice none 0 0, .slice none 0 0, .map none]) rfl mT rfl λ gm _ _ => ⟨_, (.put rfl), ?_⟩)
 refine At.s rfl rfl (Ox.bp (cs' := #[_, _, _, _, _, _, _, _]) rfl rfl rfl eK rfl (ak rfl (ak rfl (ak rfl (ak sH.one (ak sI.one (ak sJ.one (ak sK.one (ak GH.one aW)))))))) .here rfl rfl rfl (.refl _) ?_)
 refine vs 1 ?_
 refine es ?_
 refine sg aQ ?_
 refine vs 2 ?_
 refine er ?_
 refine sc hM (λ uK hM => ?_) (λ uK hM => ?_)
 ·refine sg aS ?_
  refine vs 3 ?_
  refine er ?_
  obtain rfl := af hM
  exact rt Tryz.func43 (.tmp rfl (.tmp rfl .nil)) (so (aP (so (so sr)))) (hk _ _ _ ⟨lf, rfl, .slice none 0 0, aj.nil, rfl⟩)
 refine sp ?_
 refine sg bT ?_
 refine lN [_, _, _, _, _, _, _, _] 0 8 eK z0 ?_
 refine At.s rfl rfl (Ox.makeFunc (vs := #[]) (us := #[_]) rfl rfl rfl rfl (.put rfl) ?_)
 refine At.Fg (H2 := (gm, _) :: (gJ, _) :: (jV, _) :: H) (λ X => (gm, _) :: X ++ ((gJ, _) :: (jV, _) :: H)) (.cons .id) rfl GH (λ Xd k8 Cn => ?_)
 replace sH := sH.mono k8
 replace sI := sI.mono k8
 replace sJ := sJ.mono k8
 replace sK := sK.mono k8
 obtain ⟨dW, mF, hM⟩ := ao hM
 refine At.cv YN (aby ei.1 (λ y => CL y x1) sH sI sJ sK Cn ⟨129, #[], #[_], rfl, aik, λ R' H' hR hH y r va hA hr => by obtain ⟨_, rfl, ⟨AE, rfl⟩⟩ := hA; exact (awR y x1 AE (aT.box (hH _ z1)) hr).mono λ _ _ _ ⟨h1, h2, h3⟩ => ⟨h1 ▸ rr, h2.symm, h3⟩⟩ mF) ?_
 rintro aAI Jl _ ⟨mj, rfl, _, auE, rfl⟩
 refine vs 2 ?_
 refine er ?_
 obtain rfl := af hM
 exact rt Tryz.func43 (.tmp rfl (.tmp rfl .nil)) (so (so (so sr))) (hk _ _ _ ⟨((lf.trans k8).trans mj), rfl, aAI, auE, rfl⟩)
theorem N0 (x0 : aq) {aC aD aH : Value} (hG : fM R) (ay : aj bm 5 R aC x0.az) (aB : aj CZ 1 R aD x0.Out) (aF : aj bh 2 R aH x0.aO) {r : (Int × Int)} (hM : oH x0 = some r) : aJ ag 44 #[.agg #[iv x0.aE, iv x0.aa.an, iv x0.aa.ax, aC, aD, aH]] R H (λ v R' H' => aN R R' ∧ H = H' ∧ v = .tuple #[iv r.1, iv r.2]) := by
 unfold oH at hM
 refine aJ.aX Tryz.func44 rfl (n := 18) rfl rfl λ fr cs hk => ?_
 refine sg aS ?_
 refine bx λ jV => ?_
 refine vs 2 ?_
 refine es ?_
 refine sg aS ?_
 refine lN [_, _, _, _, _, _] 0 6 aU z0 ?_
 obtain ⟨oP, xl, hM⟩ := ao hM
 refine At.cv uo (ve x0 hG ay aB aF xl) ?_
 rintro _ Xi _ ⟨qp, rfl, rfl⟩
 replace ay := ay.mono qp
 replace aB := aB.mono qp
 replace aF := aF.mono qp
 refine vs 1 ?_
 refine nx aQ ?_
 refine vs 2 ?_
 refine er ?_
 refine sc hM (λ uK hM => ?_) (λ uK hM => ?_)
 ·refine sg aS ?_
  refine vs 3 ?_
  refine er ?_
  obtain rfl := af hM
  exact rt Tryz.func44 (.tmp rfl (.tmp rfl .nil)) (so sr) (hk _ _ _ ⟨qp, rfl, rfl⟩)
 refine sp ?_
 refine sg aQ ?_
 refine At.s rfl rfl (Ox.alloc (cs := #[iv 0]) rfl vN rfl λ jX _ _ => ⟨_, (.put rfl), ?_⟩)
 refine At.s rfl rfl (Ox.cM (cs' := #[_]) rfl rfl rfl bg rfl .here rfl rfl rfl (.refl _) ?_)
 refine es ?_
 refine sg aS ?_
 refine lN [_, _, _, _, _, _] 0 6 aU z1 ?_
 refine At.s rfl rfl (Ox.build (cells := #[_, _, _, _, _, _]) rfl pV rfl (bf rfl rfl rfl rfl aY) rfl (.put rfl) ?_)
 refine At.s rfl rfl (Ox.makeFunc (vs := #[_]) (us := #[]) rfl rfl rfl rfl (.put rfl) ?_)
 refine er ?_
 refine At.block ?_
 refine At.drop (H' := (jX, .cells #[iv 0] 3) :: H) (sk (so sr)) ?_
 refine At.HJ (A := (jR fL)) (λ y s => pK y (⟨x0.aE, ⟨x0.aa.an, x0.aa.ax⟩, x0.az, x0.Out, x0.aO⟩ : aq) s)  hM rfl PB rfl rfl rfl (λ (iF : Int) R' T H' => aN Xi R' ∧ H' = (jX, .cells #[iv iF] 3) :: T)  (λ iF R0 T0 H0 q => by obtain ⟨hR, rfl⟩ := q; exact ⟨(jX, .cells #[iv iF] 3) :: [], by simp, λ R1 T1 h => ⟨hR.trans h, by simp⟩⟩)  (λ v Inv Hy z hY hI hz => (Uf hY (⟨x0.aE, ⟨x0.aa.an, x0.aa.ax⟩, x0.az, x0.Out, x0.aO⟩ : aq) hI ay aB aF hz).mono λ _ _ _ h => ⟨h.1, h.2.1⟩) ⟨rr, rfl⟩ ?_ ?_
 ·rintro UG iF OE afX _ ⟨zy, rfl⟩ hM
  refine At.inBlock ?_
  refine sg aS ?_
  refine ld 0 bg z0 ?_
  refine vs 2 ?_
  refine er ?_
  obtain rfl := af hM
  exact At.qW (.there .here) Tryz.func44 (.tmp rfl (.tmp rfl .nil)) (J.drop (so (so sr)) (hk _ _ _ ⟨(qp.trans zy), rfl, rfl⟩))
 rintro aAb yl iF OE Xv H33 l33 avY ah3 _ ala ⟨_, rfl, ⟨u5, rfl⟩⟩ ⟨zy, rfl⟩ Rc z33 hM OP
 refine sp ?_
 refine At.beginRound rfl rfl (.there .here) Rc ?_
 refine At.block ?_
 refine At.rg aS ?_
 refine ld 0 bg z0 ?_
 refine vs 1 ?_
 refine At.s rfl rfl (Ox.cM (cs' := #[_]) rfl rfl rfl bg rfl .here rfl rfl rfl (.refl _) ?_)
 refine er ?_
 refine At.inBlock ?_
 exact OP _ (af hM).symm _ _ _ (rr) ⟨zy, rfl⟩
theorem Um (x0 : Int) (x1 : Int)  {r : Reach} (hM : xN x0 x1 = some r) : aJ ag 72 #[iv x0, iv x1] R H (λ v R' H' => R = R' ∧ H = H' ∧ v = .agg #[iv r.an, iv r.ax]) := by
 unfold xN at hM
 refine aJ.aX Tryz.func72 rfl (n := 8) rfl rfl λ fr cs hk => ?_
 refine sg aL ?_
 refine At.s rfl rfl (Ox.alloc (cs := #[iv 0, iv 0]) rfl tK rfl λ m7 _ _ => ⟨_, (.put rfl), ?_⟩)
 refine nx bn ?_
 refine vs 2 ?_
 refine At.s rfl rfl (Ox.build (cells := #[_, _]) rfl HN rfl (bf rfl rfl rfl rfl (bf rfl rfl rfl rfl aY)) rfl (.put rfl) ?_)
 refine At.s rfl rfl (Ox.bp (cs' := #[_, _]) rfl rfl rfl eJ rfl (ak rfl (ak rfl aW)) .here rfl rfl rfl (.refl _) ?_)
 refine er ?_
 obtain rfl := af hM
 exact rt Tryz.func72 (.agg rfl eJ rfl (aT.box z0) .nil) (so sr) (hk _ _ _ ⟨rfl, rfl, rfl⟩)
theorem Uj (x0 : Int)  {r : Reach} (hM : xL x0 = some r) : aJ ag 45 #[iv x0] R H (λ v R' H' => R = R' ∧ H = H' ∧ v = .agg #[iv r.an, iv r.ax]) := by
 unfold xL at hM
 refine aJ.aX Tryz.func45 rfl (n := 6) rfl rfl λ fr cs hk => ?_
 refine sg aL ?_
 refine At.s rfl rfl (Ox.alloc (cs := #[iv 0, iv 0]) rfl tK rfl λ jU _ _ => ⟨_, (.put rfl), ?_⟩)
 refine nx bn ?_
 refine vs 2 ?_
 obtain ⟨ig, lp, hM⟩ := ao hM
 refine At.cv PK (Um x0 x0  lp) ?_
 rintro _ _ _ ⟨rfl, rfl, rfl⟩
 refine At.s rfl rfl (Ox.bp (cs' := #[_, _]) rfl rfl rfl eJ rfl (ak rfl (ak rfl aW)) .here rfl rfl rfl (.refl _) ?_)
 refine er ?_
 obtain rfl := af hM
 exact rt Tryz.func45 (.agg rfl eJ rfl (aT.box z0) .nil) (so sr) (hk _ _ _ ⟨rfl, rfl, rfl⟩)
theorem aw6 (x0 : Int)  {r : Bool} (hM : BB x0 = some r) : aJ ag 159 #[iv x0] R H (λ v R' H' => R = R' ∧ H = H' ∧ v = .bool r) := by
 unfold BB at hM
 refine aJ.aX Tryz.func159 rfl (n := 6) rfl rfl λ fr cs hk => ?_
 refine sg aL ?_
 refine vs 1 ?_
 refine nx bn ?_
 refine vs 1 ?_
 obtain ⟨cA, ff, hM⟩ := ao hM
 refine At.cv qk (qP x0 0 99  ff) ?_
 rintro _ _ _ ⟨rfl, rfl, rfl⟩
 refine vs 2 ?_
 refine er ?_
 obtain rfl := af hM
 exact rt Tryz.func159 (.tmp rfl .nil) sr (hk _ _ _ ⟨rfl, rfl, rfl⟩)
theorem awS (x0 : aq) (x1 : cB) {aC aD aH iV : Value} (ay : aj bm 5 R aC x0.az) (_ : aj CZ 1 R aD x0.Out) (_ : aj bh 2 R aH x0.aO) (k5 : aj CZ 1 R iV x1.fD) {r : (bu × Int)} (hM : Ef x0 x1 = some r) : aJ ag 131 #[.agg #[iv x0.aE, iv x0.aa.an, iv x0.aa.ax, aC, aD, aH], .agg #[iv x1.aa, iV]] R H (λ v R' H' => aN R R' ∧ H = H' ∧ r.1.weights.length = 5 ∧ v = .tuple #[.agg (List.toArray ([iv r.1.fB] ++ (r.1.weights.map (Value.int .i64) ++ []))), iv r.2]) := by
 unfold Ef at hM
 refine aJ.aX Tryz.func131 rfl (n := 37) rfl rfl λ fr cs hk => ?_
 refine sg bn ?_
 refine bx λ o7 => ?_
 refine bx λ uh => ?_
 refine At.s rfl rfl (Ox.alloc (cs := (List.toArray ([iv 0] ++ ([0, 0, 0, 0, 0].map (Value.int .i64) ++ [])))) rfl yo rfl λ EY _ _ => ⟨_, (.put rfl), ?_⟩)
 refine vs 1 ?_
 refine es ?_
 refine At.block ?_
 refine sg bT ?_
 refine vs 1 ?_
 refine ld 0 bg z1 ?_
 obtain ⟨fc, oC, hM⟩ := ao hM
 refine At.cv qk (qP x1.aa (-999) 999  oC) ?_
 rintro _ _ _ ⟨rfl, rfl, rfl⟩
 refine vs 2 ?_
 refine er ?_
 refine sc hM (λ Ae hM => ?_) (λ Ae hM => ?_)
 ·refine sg aS ?_
  refine At.s rfl rfl (Ox.build (cells := (List.toArray ([iv 0] ++ ([0, 0, 0, 0, 0].map (Value.int .i64) ++ [])))) rfl HM rfl rfl rfl (.put rfl) ?_)
  refine At.s rfl rfl (Ox.bp (cs' := _) rfl rfl rfl eP (by simp) (cr (ak rfl aW) (cr (eM λ _ => rfl) aW)) .here (by simp) (eB (by simp [])) rfl (.refl _) ?_)
  refine vs 1 ?_
  refine er ?_
  obtain rfl := af hM
  exact rt Tryz.func131 (.agg rfl eP (by simp) (aT.box z0) (.tmp rfl .nil)) (so (so (so sr))) (hk _ _ _ ⟨(rr), rfl, rfl, rfl⟩)
 refine sg gd ?_
 refine vs 1 ?_
 refine ld 1 bL z1 ?_
 refine ls k5 Tryz.underlying25 ?_
 refine vs 2 ?_
 refine ld 3 cK z2 ?_
 refine ls ay Tryz.underlying24 ?_
 refine vs 2 ?_
 refine er ?_
 refine sc hM (λ qC hM => ?_) (λ qC hM => ?_)
 ·refine sg aS ?_
  refine At.s rfl rfl (Ox.build (cells := (List.toArray ([iv 0] ++ ([0, 0, 0, 0, 0].map (Value.int .i64) ++ [])))) rfl HM rfl rfl rfl (.put rfl) ?_)
  refine At.s rfl rfl (Ox.bp (cs' := _) rfl rfl rfl eP (by simp) (cr (ak rfl aW) (cr (eM λ _ => rfl) aW)) .here (by simp) (eB (by simp [])) rfl (.refl _) ?_)
  refine vs 1 ?_
  refine er ?_
  obtain rfl := af hM
  exact rt Tryz.func131 (.agg rfl eP (by simp) (aT.box z0) (.tmp rfl .nil)) (so (so (so sr))) (hk _ _ _ ⟨(rr), rfl, rfl, rfl⟩)
 refine sg bn ?_
 refine vs 1 ?_
 refine ld 1 bL z1 ?_
 obtain ⟨dX, mG, hM⟩ := ao hM
 refine At.cv YS (abC x1.fD (λ y => BB y) k5.rd ⟨159, #[], #[], rfl, aiy, λ R' H' hR hH y r va hA hr => by obtain rfl := hA; exact (aw6 y  hr).mono λ _ _ _ ⟨h1, h2, h3⟩ => ⟨h1 ▸ rr, h2.symm, h3⟩⟩ mG) ?_
 rintro _ wF _ ⟨eA, rfl, rfl⟩
 replace k5 := k5.mono eA
 refine vs 1 ?_
 refine er ?_
 refine sc hM (λ Ag hM => ?_) (λ Ag hM => ?_)
 ·refine sg aS ?_
  refine At.s rfl rfl (Ox.build (cells := (List.toArray ([iv 0] ++ ([0, 0, 0, 0, 0].map (Value.int .i64) ++ [])))) rfl HM rfl rfl rfl (.put rfl) ?_)
  refine At.s rfl rfl (Ox.bp (cs' := _) rfl rfl rfl eP (by simp) (cr (ak rfl aW) (cr (eM λ _ => rfl) aW)) .here (by simp) (eB (by simp [])) rfl (.refl _) ?_)
  refine vs 1 ?_
  refine er ?_
  obtain rfl := af hM
  exact rt Tryz.func131 (.agg rfl eP (by simp) (aT.box z0) (.tmp rfl .nil)) (so (so (so sr))) (hk _ _ _ ⟨eA, rfl, rfl, rfl⟩)
 refine sp ?_
 refine At.inBlock ?_
 refine sg bT ?_
 refine vs 1 ?_
 refine ld 0 bg z1 ?_
 refine At.s rfl rfl (Ox.build (cells := (List.toArray ([iv x1.aa] ++ ([0, 0, 0, 0, 0].map (Value.int .i64) ++ [])))) rfl HM rfl rfl rfl (.put rfl) ?_)
 refine At.s rfl rfl (Ox.alloc (cs := (List.toArray ([iv 0] ++ ([0, 0, 0, 0, 0].map (Value.int .i64) ++ [])))) rfl yo rfl λ b60 _ _ => ⟨_, (.put rfl), ?_⟩)
 refine At.s rfl rfl (Ox.bp (cs' := _) rfl rfl rfl eP (by simp) (cr (ak rfl aW) (cr (eM λ _ => rfl) aW)) .here (by simp) (eB (by simp [])) rfl (.refl _) ?_)
 refine es ?_
 refine At.draw (n := 5) (is := [0, 1, 2, 3, 4]) (many ((b60, .cells (List.toArray ([iv x1.aa] ++ ([0, 0, 0, 0, 0].map (Value.int .i64) ++ []))) 125) :: (EY, .cells (List.toArray ([iv 0] ++ ([0, 0, 0, 0, 0].map (Value.int .i64) ++ []))) 125) :: (uh, .cells #[iv x1.aa, iV] 66) :: (o7, .cells #[iv x0.aE, iv x0.aa.an, iv x0.aa.ax, aC, aD, aH] 102) :: H) [(4, (EY, .cells (List.toArray ([iv 0] ++ ([0, 0, 0, 0, 0].map (Value.int .i64) ++ []))) 125) :: (uh, .cells #[iv x1.aa, iV] 66) :: (o7, .cells #[iv x0.aE, iv x0.aa.an, iv x0.aa.ax, aC, aD, aH] 102) :: H)]) mixed rfl (by decide +kernel) rfl rfl ?_
 refine Any.vs 1 [0] rfl ?_
 refine ts 1 [4] rfl (cq rfl (dm (su (so (so (so (so sr))))))) (su (so (so (so (so sr))))) (λ R' H' hR hS => Ox.azz rfl rfl EX rfl (.one rfl) ⟨rfl, rfl, rfl⟩) ?_
 refine Any.vs 1 [2] rfl ?_
 refine ts 3 [4] rfl (cq rfl (dm (su (so (so (sk (so sr))))))) (su (so (so (sk (so sr))))) (λ R' H' hR hS => Ox.bV rfl rfl bL ((aT.box (hS _ z0)).one (j := 1) rfl) rfl (.one rfl) ⟨rfl, rfl, rfl⟩) ?_
 refine Any.on 4 rfl rfl (aR.to (Ox.ah2 rfl rfl rfl cL Tryz.underlying25 k5.rd rfl .here rfl rfl (.put rfl) ⟨rr, (bO rfl (su (so sr))), ?_⟩))
 refine Any.done ?_
 refine sg aS ?_
 refine At.s rfl rfl (Ox.bP (vs := _) rfl rfl eP (by simp [(B5 rfl)]) ((aT.box z0).part (j := 0) (n := 6) (eE (by simp [(B5 rfl)]))) rfl (.put rfl) ?_)
 refine At.s rfl rfl (Ox.bp (cs' := _) rfl rfl rfl eP (by simp [(B5 rfl)]) (cr (ak rfl aW) (cr (eM λ _ => rfl) aW)) (.there .here) (by simp) (eB (by simp [(B5 rfl)])) rfl (.refl _) ?_)
 refine vs 1 ?_
 refine er ?_
 obtain rfl := af hM
 exact rt Tryz.func131 (.agg rfl eP (by simp [(B5 rfl)]) (aT.box z1) (.tmp rfl .nil)) (so (so (so (so sr)))) (hk _ _ _ ⟨eA, rfl, (B5 rfl), rfl⟩)
theorem VZ (x0 : aq) (x1 : cB) (x2 : (List Int)) {aC aD aH iV v2 : Value} (hG : fM R) (ay : aj bm 5 R aC x0.az) (aB : aj CZ 1 R aD x0.Out) (aF : aj bh 2 R aH x0.aO) (k5 : aj CZ 1 R iV x1.fD) (h2 : bC CZ 1 R H v2 x2) {r : (Int × Int)} (hM : rI x0 x1 x2 = some r) : aJ ag 50 #[.agg #[iv x0.aE, iv x0.aa.an, iv x0.aa.ax, aC, aD, aH], .agg #[iv x1.aa, iV], v2] R H (λ v R' H' => aN R R' ∧ H = H' ∧ v = .tuple #[iv r.1, iv r.2]) := by
 unfold rI at hM
 refine aJ.aX Tryz.func50 rfl (n := 43) rfl rfl λ fr cs hk => ?_
 refine sg bn ?_
 refine bx λ m8 => ?_
 refine bx λ fS => ?_
 refine vs 2 ?_
 refine es ?_
 refine sg aS ?_
 refine lN [_, _, _, _, _, _] 0 6 aU z1 ?_
 obtain ⟨gP, sS, hM⟩ := ao hM
 refine At.cv uo (ve x0 hG ay aB aF sS) ?_
 rintro _ OL _ ⟨iB, rfl, rfl⟩
 replace ay := ay.mono iB
 replace aB := aB.mono iB
 replace aF := aF.mono iB
 replace k5 := k5.mono iB
 replace h2 := h2.le iB
 refine vs 1 ?_
 refine nx aQ ?_
 refine vs 2 ?_
 refine er ?_
 refine sc hM (λ uL hM => ?_) (λ uL hM => ?_)
 ·refine sg aS ?_
  refine vs 3 ?_
  refine er ?_
  obtain rfl := af hM
  exact rt Tryz.func50 (.tmp rfl (.tmp rfl .nil)) (so (so sr)) (hk _ _ _ ⟨iB, rfl, rfl⟩)
 refine sp ?_
 refine sg bn ?_
 refine lN [_, _, _, _, _, _] 0 6 aU z1 ?_
 refine At.s rfl rfl (Ox.build (cells := #[_, _, _, _, _, _]) rfl pV rfl (bf rfl rfl rfl rfl aY) rfl (.put rfl) ?_)
 refine At.s rfl rfl (Ox.alloc (cs := #[iv 0, iv 0, iv 0, .slice none 0 0, .slice none 0 0, .slice none 0 0]) rfl Vx rfl λ r6 _ _ => ⟨_, (.put rfl), ?_⟩)
 refine At.s rfl rfl (Ox.bp (cs' := #[_, _, _, _, _, _]) rfl rfl rfl ew rfl (ak rfl (ak rfl (ak rfl (ak ay.one (ak aB.one (ak aF.one aW)))))) .here rfl rfl rfl (.refl _) ?_)
 refine nx gd ?_
 refine lN [_, _, _, _, _, _] 0 6 ew z0 ?_
 refine lN [_, _] 0 2 rP z1 ?_
 obtain ⟨eO, oD, hM⟩ := ao hM
 refine At.cv ail (awS x0 x1 ay aB aF k5 oD) ?_
 rintro _ Xm _ ⟨oh, rfl, G7, rfl⟩
 replace ay := ay.mono oh
 replace aB := aB.mono oh
 replace aF := aF.mono oh
 replace h2 := h2.le oh
 refine vs 3 ?_
 refine At.s rfl rfl (Ox.alloc (cs := (List.toArray ([iv 0] ++ ([0, 0, 0, 0, 0].map (Value.int .i64) ++ [])))) rfl yo rfl λ jB _ _ => ⟨_, (.put rfl), ?_⟩)
 refine At.s rfl rfl (Ox.bp (cs' := _) rfl rfl rfl eP (by simp [G7]) (cr (ak rfl aW) (cr (eM λ _ => rfl) aW)) .here (by simp) (eB (by simp [G7])) rfl (.refl _) ?_)
 refine vs 1 ?_
 refine es ?_
 refine sg aQ ?_
 refine vs 2 ?_
 refine er ?_
 refine sc hM (λ uM hM => ?_) (λ uM hM => ?_)
 ·refine sg aS ?_
  refine vs 3 ?_
  refine er ?_
  obtain rfl := af hM
  exact rt Tryz.func50 (.tmp rfl (.tmp rfl .nil)) (so (so (so (so sr)))) (hk _ _ _ ⟨(iB.trans oh), rfl, rfl⟩)
 refine sp ?_
 refine sq ?_
 refine sg dy ?_
 refine vs 2 ?_
 refine ld 3 cK z3 ?_
 refine ls ay Tryz.underlying24 ?_
 obtain ⟨oQ, Ap, hM⟩ := ao hM
 refine At.cv PC (Ug x2 (x0.az.length : Int) (h2.sub (su (so (so (so (so sr)))))) Ap) ?_
 rintro _ _ _ ⟨rfl, rfl, rfl⟩
 refine vs 1 ?_
 refine nx aQ ?_
 refine vs 2 ?_
 refine er ?_
 refine sc hM (λ SV hM => ?_) (λ SV hM => ?_)
 ·refine sg aS ?_
  refine vs 3 ?_
  refine er ?_
  obtain rfl := af hM
  exact rt Tryz.func50 (.tmp rfl (.tmp rfl .nil)) (so (so (so (so sr)))) (hk _ _ _ ⟨(iB.trans oh), rfl, rfl⟩)
 refine sp ?_
 refine sq ?_
 refine At.dw eC mixed ?_
 refine tN 0 [_, _, _, _, _, _] 0 6 ew z1 ?_
 refine Any.tk 1 rfl pp (λ R' H' hR hS => Ox.bP (vs := _) rfl rfl eP (by simp [G7]) ((aT.box (hS _ z0)).part (j := 0) (n := 6) (eE (by simp [G7]))) rfl (.one rfl) ⟨rfl, rfl, rfl⟩) ?_
 refine Any.tk 2 rfl pp (λ R' H' hR hS => Ox.qj (z := (List.toArray ([] ++ ([false, false, false, false, false].map Value.bool ++ [])))) rfl qg rfl (.one rfl) ⟨rfl, rfl, rfl⟩) ?_
 refine Any.vs 1 [3] rfl ?_
 obtain ⟨Bq, Tw, hM⟩ := ao hM
 refine Any.cv 4 fU (fX [false, false, false, false, false] x2 rfl (h2.sub (su (so (so (so (so sr)))))) Tw) ?_
 rintro _ _ _ ⟨rfl, rfl, awH, rfl⟩
 refine kp ?_
 obtain ⟨fA, kG, hM⟩ := ao hM
 refine Any.cv 5 wO (xG x0 eO.1 Bq ay aB aF G7 awH kG) ?_
 rintro _ _ _ ⟨rfl, rfl, rfl⟩
 refine kp ?_
 refine Any.vs 2 [6, 7] rfl ?_
 refine Any.done ?_
 obtain rfl := af hM
 exact rt Tryz.func50 (.tmp rfl (.tmp rfl .nil)) (so (so (so (so sr)))) (hk _ _ _ ⟨(iB.trans oh), rfl, rfl⟩)
theorem axM (x0 : aq) {aC aD aH : Value} (hG : fM R) (ay : aj bm 5 R aC x0.az) (aB : aj CZ 1 R aD x0.Out) (aF : aj bh 2 R aH x0.aO) {r : ((List Int) × Int)} (hM : C4 x0 = some r) : aJ ag 53 #[.agg #[iv x0.aE, iv x0.aa.an, iv x0.aa.ax, aC, aD, aH]] R H (λ v R' H' => aN R R' ∧ H = H' ∧ ∃ bU, aj CZ 1 R' bU r.1 ∧ v = .tuple #[bU, iv r.2]) := by
 unfold C4 at hM
 refine aJ.aX Tryz.func53 rfl (n := 17) rfl rfl λ fr cs hk => ?_
 refine sg aS ?_
 refine bx λ jV => ?_
 refine vs 2 ?_
 refine es ?_
 refine sg aS ?_
 refine lN [_, _, _, _, _, _] 0 6 aU z0 ?_
 obtain ⟨oP, xl, hM⟩ := ao hM
 refine At.cv uo (ve x0 hG ay aB aF xl) ?_
 rintro _ Xi _ ⟨qp, rfl, rfl⟩
 replace ay := ay.mono qp
 replace aB := aB.mono qp
 replace aF := aF.mono qp
 refine vs 1 ?_
 refine nx aQ ?_
 refine vs 2 ?_
 refine er ?_
 refine sc hM (λ uK hM => ?_) (λ uK hM => ?_)
 ·refine sg aS ?_
  refine vs 3 ?_
  refine er ?_
  obtain rfl := af hM
  exact rt Tryz.func53 (.tmp rfl (.tmp rfl .nil)) (so sr) (hk _ _ _ ⟨qp, rfl, .slice none 0 0, aj.nil, rfl⟩)
 refine sp ?_
 refine sq ?_
 refine At.dw gd mixed ?_
 refine tN 0 [_, _, _, _, _, _] 0 6 aU z0 ?_
 refine Any.tk 1 rfl pp (λ R' H' hR hS => Ox.build (cells := #[_, _, _, _, _, _]) rfl pV rfl (bf rfl rfl rfl rfl aY) rfl (.one rfl) ⟨rfl, rfl, rfl⟩) ?_
 refine Any.tk 2 rfl pp (λ R' H' hR hS => Ox.qj (z := (List.toArray ([] ++ ([false, false, false, false, false].map Value.bool ++ [])))) rfl qg rfl (.one rfl) ⟨rfl, rfl, rfl⟩) ?_
 refine Any.vs 1 [3] rfl ?_
 refine tl 4 4 bL z0 ?_
 obtain ⟨dW, mF, hM⟩ := ao hM
 refine Any.cv 5 fU (fX [false, false, false, false, false] x0.Out rfl aB.rd mF) ?_
 rintro _ _ _ ⟨rfl, rfl, awG, rfl⟩
 refine kp ?_
 obtain ⟨fJ, qF, hM⟩ := ao hM
 refine Any.cv 6 PL (Un (⟨x0.aE, ⟨x0.aa.an, x0.aa.ax⟩, x0.az, x0.Out, x0.aO⟩ : aq) dW ay aB aF awG qF) ?_
 rintro adg Xj _ ⟨og, rfl, _, KM, rfl⟩
 refine ⟨og, ka, ?_⟩
 refine Any.vs 2 [7, 8] rfl ?_
 refine Any.done ?_
 obtain rfl := af hM
 exact rt Tryz.func53 (.tmp rfl (.tmp rfl .nil)) (so sr) (hk _ _ _ ⟨(qp.trans og), rfl, adg, KM, rfl⟩)
theorem CX (x0 : aq) (x1 : (List Int)) {aC aD aH v1 : Value} {b1 : Nat} (ay : aj bm 5 R aC x0.az) (_ : aj CZ 1 R aD x0.Out) (_ : aj bh 2 R aH x0.aO) (cN : aT R H b1 0 [v1]) (h1 : aj CZ 1 R v1 x1) {r : Int} (hM : pL x0 x1 = some r) : aJ ag 160 #[.agg #[iv x0.aE, iv x0.aa.an, iv x0.aa.ax, aC, aD, aH], .pointer (some ⟨b1, 0, none⟩)] R H (λ v R' H' => R = R' ∧ H = H' ∧ v = iv r) := by
 unfold pL at hM
 refine aJ.aX Tryz.func160 rfl (n := 10) rfl rfl λ fr cs hk => ?_
 refine sg aQ ?_
 refine bx λ jU => ?_
 refine vs 1 ?_
 refine nx dY ?_
 refine At.ld bL ((cN.sub (su (so sr))).one (j := 0) rfl) ?_
 refine vs 2 ?_
 refine ld 3 cK z0 ?_
 refine ls ay Tryz.underlying24 ?_
 obtain ⟨ig, lp, hM⟩ := ao hM
 refine At.cv PC (Ug x1 (x0.az.length : Int) h1.rd lp) ?_
 rintro _ _ _ ⟨rfl, rfl, rfl⟩
 refine vs 1 ?_
 refine er ?_
 obtain rfl := af hM
 exact rt Tryz.func160 (.tmp rfl .nil) (so sr) (hk _ _ _ ⟨rfl, rfl, rfl⟩)
theorem K9 (x0 : (List Int)) {v0 : Value} (h0 : aj CZ 1 R v0 x0) {r : (List Int)} (hM : CN x0 = some r) : aJ ag 133 #[v0] R H (λ v R' H' => aN R R' ∧ H = H' ∧ ∃ acZ E1, aT R' [] E1 0 [acZ] ∧ aj CZ 1 R' acZ r ∧ v = .func (.func 160) #[] #[.pointer (some ⟨E1, 0, none⟩)]) := by
 unfold CN at hM
 refine aJ.aX Tryz.func133 rfl (n := 4) rfl rfl λ fr cs hk => ?_
 refine sg aQ ?_
 refine At.s rfl rfl (Ox.uk rfl rfl h0.cells rfl λ jU _ _ => ⟨_, (.put rfl), ?_⟩)
 refine vs 1 ?_
 refine nx aQ ?_
 refine At.s rfl rfl (Ox.makeFunc (vs := #[]) (us := #[_]) rfl rfl rfl rfl (.put rfl) ?_)
 refine vs 1 ?_
 refine er ?_
 refine At.nh (H2 := H) (λ X => X ++ (H)) .id rfl (λ Xc kA iC => ?_)
 replace h0 := h0.mono kA
 obtain rfl := af hM
 exact rt Tryz.func133 (.tmp rfl .nil) sr (hk _ _ _ ⟨kA, rfl, v0, jU, iC, h0, rfl⟩)
theorem awT (x0 : bu) (x1 : cW) (x2 : (List Int)) {jM iH jN x8 x9 v2 : Value} {b1 b2 : Nat} (gx : x0.weights.length = 5) (cN : aT R H b1 0 [iv x1.book.aE, iv x1.book.aa.an, iv x1.book.aa.ax, jM, iH, jN, x8, x9]) (l5 : aj bm 5 R jM x1.book.az) (k6 : aj CZ 1 R iH x1.book.Out) (l6 : aj bh 2 R jN x1.book.aO) (_ : aj fL 6 R x8 x1.dR) (_ : m5 R x9 x1.nL) (bz : aT R H b2 0 [v2]) (h2 : aj CZ 1 R v2 x2) {r : Bool} (hM : CO x0 x1 x2 = some r) : aJ ag 134 #[.agg (List.toArray ([iv x0.fB] ++ (x0.weights.map (Value.int .i64) ++ []))), .pointer (some ⟨b1, 0, none⟩), .pointer (some ⟨b2, 0, none⟩)] R H (λ v R' H' => R = R' ∧ H = H' ∧ v = .bool r) := by
 unfold CO at hM
 refine aJ.aX Tryz.func134 rfl (n := 15) rfl rfl λ fr cs hk => ?_
 refine sg aQ ?_
 refine bx λ n9 => ?_
 refine vs 1 ?_
 refine es ?_
 refine At.dw yO mixed ?_
 refine Any.vs 1 [0] rfl ?_
 refine Any.tk 1 rfl pp (λ R' H' hR hS => Ox.bP (vs := [_, _, _, _, _, _]) rfl rfl ew rfl (((cN.le hR).sub (λ p h => hS p ((su (so sr)) p h))).part (j := 0) (n := 6) rfl) rfl (.one rfl) ⟨rfl, rfl, rfl⟩) ?_
 refine Any.vs 1 [2] rfl ?_
 refine Any.tk 3 rfl pp (λ R' H' hR hS => Ox.bP (vs := [_, _, _, _, _, _]) rfl rfl ew rfl (((cN.le hR).sub (λ p h => hS p ((su (so sr)) p h))).part (j := 0) (n := 6) rfl) rfl (.one rfl) ⟨rfl, rfl, rfl⟩) ?_
 refine Any.tk 4 rfl pp (λ R' H' hR hS => Ox.bP (vs := _) rfl rfl eP (by simp [gx]) ((aT.box (hS _ z0)).part (j := 0) (n := 6) (eE (by simp [gx]))) rfl (.one rfl) ⟨rfl, rfl, rfl⟩) ?_
 refine Any.tk 5 rfl pp (λ R' H' hR hS => Ox.qj (z := (List.toArray ([] ++ ([false, false, false, false, false].map Value.bool ++ [])))) rfl qg rfl (.one rfl) ⟨rfl, rfl, rfl⟩) ?_
 refine Any.tk 6 rfl pp (λ R' H' hR hS => Ox.bV rfl rfl bL (((bz.le hR).sub (λ p h => hS p ((su (so sr)) p h))).one (j := 0) rfl) rfl (.one rfl) ⟨rfl, rfl, rfl⟩) ?_
 obtain ⟨fQ, mD, hM⟩ := ao hM
 refine Any.cv 7 fU (fX [false, false, false, false, false] x2 rfl h2.rd mD) ?_
 rintro _ _ _ ⟨rfl, rfl, awE, rfl⟩
 refine kp ?_
 obtain ⟨fR, qE, hM⟩ := ao hM
 refine Any.cv 8 wO (xG x1.book x0 fQ l5 k6 l6 gx awE qE) ?_
 rintro _ _ _ ⟨rfl, rfl, rfl⟩
 refine kp ?_
 obtain ⟨jO, uR, hM⟩ := ao hM
 refine Any.cv 9 Pq (T5 x1.book fR l5 k6 l6 uR) ?_
 rintro _ _ _ ⟨rfl, rfl, rfl⟩
 refine kp ?_
 refine Any.vs 1 [10] rfl ?_
 refine Any.done ?_
 obtain rfl := af hM
 exact rt Tryz.func134 (.tmp rfl .nil) (so sr) (hk _ _ _ ⟨rfl, rfl, rfl⟩)
theorem abF (x0 : aq) (x1 : (List Int)) {aC aD aH v1 : Value} (hG : fM R) (ay : aj bm 5 R aC x0.az) (aB : aj CZ 1 R aD x0.Out) (aF : aj bh 2 R aH x0.aO) (h1 : aj CZ 1 R v1 x1) {r : (Int × Int)} (hM : AX x0 x1 = some r) : aJ ag 56 #[.agg #[iv x0.aE, iv x0.aa.an, iv x0.aa.ax, aC, aD, aH], v1] R H (λ v R' H' => aN R R' ∧ H = H' ∧ v = .tuple #[iv r.1, iv r.2]) := by
 unfold AX at hM
 refine aJ.aX Tryz.func56 rfl (n := 21) rfl rfl λ fr cs hk => ?_
 refine sg bn ?_
 refine bx λ iN => ?_
 refine At.s rfl rfl (Ox.uk rfl rfl h1.cells rfl λ gm _ _ => ⟨_, (.put rfl), ?_⟩)
 refine vs 2 ?_
 refine es ?_
 obtain ⟨eH, mE, hM⟩ := ao hM
 obtain ⟨dW, mF, hM⟩ := ao hM
 refine At.cut (λ R' H' st' => aN R R' ∧ ∃ (e6 : Nat) (vF : Value) (vG : Value) (vH : Value) (vI : Value) (vJ : Value) (qd : au), aj bm 5 R' vF dW.1.book.az ∧ aj CZ 1 R' vG dW.1.book.Out ∧ aj bh 2 R' vH dW.1.book.aO ∧ aj fL 6 R' vI dW.1.dR ∧ lT vJ dW.1.nL qd ∧ H' = (e6, .cells #[iv dW.1.book.aE, iv dW.1.book.aa.an, iv dW.1.book.aa.ax, vF, vG, vH, vI, vJ] 106) :: qd ++ ((gm, .cells #[v1] 25) :: H) ∧ aK st' [(3, .pointer (some ⟨gm, 0, none⟩)), (6, .pointer (some ⟨e6, 0, none⟩)), (7, iv dW.2)]) ?_ ?_
 ·rintro aHo aFA aPr ⟨Qg, e6, vF, vG, vH, vI, vJ, qd, ou, ov, ow, ox, sM, rfl, ary⟩
  refine At.sub ary ?_
  replace h1 := h1.mono Qg
  refine sq ?_
  refine sg aQ ?_
  refine vs 2 ?_
  refine er ?_
  refine sc hM (λ SO hM => ?_) (λ SO hM => ?_)
  ·refine sg aS ?_
   refine vs 3 ?_
   refine er ?_
   obtain rfl := af hM
   exact rt Tryz.func56 (.tmp rfl (.tmp rfl .nil)) (so (aP (so sr))) (hk _ _ _ ⟨Qg, rfl, rfl⟩)
  refine sp ?_
  refine sg bT ?_
  refine lN [_, _, _, _, _, _, _, _] 0 8 eK z0 ?_
  refine At.s rfl rfl (Ox.makeFunc (vs := #[]) (us := #[_, _]) rfl rfl rfl rfl (.put rfl) ?_)
  refine At.Fg (H2 := (e6, _) :: (gm, _) :: H) (λ X => (e6, _) :: X ++ ((gm, _) :: H)) (.cons .id) rfl sM (λ agI sB Kx => ?_)
  replace h1 := h1.mono sB
  replace ou := ou.mono sB
  replace ov := ov.mono sB
  replace ow := ow.mono sB
  replace ox := ox.mono sB
  obtain ⟨cJ, qG, hM⟩ := ao hM
  refine At.cv YH (abr dW.1 (λ y => CO y dW.1 x1) ou ov ow ox Kx ⟨134, #[], #[_, _], rfl, aim, λ R' H' hR hH y r va hA hr => by obtain ⟨_, rfl, ⟨AE, rfl⟩⟩ := hA; exact (awT y dW.1 x1 AE (aT.box (hH _ z0)) (ou.mono hR) (ov.mono hR) (ow.mono hR) (ox.mono hR) (Kx.mono hR) (aT.box (hH _ z1)) (h1.mono hR) hr).mono λ _ _ _ ⟨h1, h2, h3⟩ => ⟨h1 ▸ rr, h2.symm, h3⟩⟩ qG) ?_
  rintro _ EK _ ⟨iz, rfl, rfl⟩
  refine vs 2 ?_
  refine er ?_
  obtain rfl := af hM
  exact rt Tryz.func56 (.tmp rfl (.tmp rfl .nil)) (so (so sr)) (hk _ _ _ ⟨((Qg.trans sB).trans iz), rfl, rfl⟩)
 intro Qx
 refine At.dw mM mixed ?_
 refine tN 0 [_, _, _, _, _, _] 0 6 aU z1 ?_
 refine tl 1 0 bL z0 ?_
 refine tw 2 7 ?_ ?_
 ·refine  (Ox.dO rfl rfl rfl rfl JW rfl rfl ((K9 x1 h1 mE).mono ?_))
  rintro _ y8 _ ⟨cV, rfl, aAH, ahQ, sL, KL, rfl⟩
  replace ay := ay.mono cV
  replace aB := aB.mono cV
  replace aF := aF.mono cV
  replace h1 := h1.mono cV
  replace hG := hG.mono cV
  refine ⟨_, (.put rfl), ⟨cV, ka, ?_⟩⟩
  refine tw 3 7 ?_ ?_
  ·refine  (Ox.dO rfl rfl rfl rfl oe rfl rfl ((oI x0 (λ y => pL y eH) hG ay aB aF ⟨160, #[], #[_], rfl, B7, λ R' H' hR hH y r va hA hr => by obtain ⟨_, rfl, ⟨pZ, oN, p5, gv, fN, gw, rfl⟩⟩ := hA; exact (CX y eH gv fN gw (sL.up hR) (KL.mono hR) hr).mono λ _ _ _ ⟨h1, h2, h3⟩ => ⟨h1 ▸ rr, h2.symm, h3⟩⟩ mF).mono ?_))
   rintro _ Jl _ ⟨mj, qd, vF, vG, vH, vI, vJ, ou, ov, ow, ox, sM, rfl, rfl⟩
   replace sL := sL.up (H := []) mj
   refine ⟨_, (.put rfl), ⟨mj, (ku (aP sr)), ?_⟩⟩
   refine Any.vs 3 [4, 5, 6] rfl ?_
   refine Any.on 7 rfl rfl (aR.to (Ox.alloc (cs := #[iv 0, iv 0, iv 0, .slice none 0 0, .slice none 0 0, .slice none 0 0, .slice none 0 0, .map none]) rfl mT rfl λ e6 _ _ => ⟨_, (.put rfl), ⟨rr, (ku (so (aP sr))), ?_⟩⟩))
   refine Any.on 8 rfl rfl (aR.to (Ox.bp (cs' := #[_, _, _, _, _, _, _, _]) rfl rfl rfl eK rfl (ak rfl (ak rfl (ak rfl (ak ou.one (ak ov.one (ak ow.one (ak ox.one (ak sM.one aW)))))))) .here rfl rfl rfl (.refl _) ⟨rr, (ku (so (aP sr))), ?_⟩))
   refine Any.vs 1 [9] rfl ?_
   exact Any.done (At.drop (sk (eD (sk (so sr)))) (Qx _ _ _ ⟨(cV.trans mj), e6, vF, vG, vH, vI, vJ, qd, ou, ov, ow, ox, sM, rfl, aA.sub ⟨rfl, rfl, rfl, trivial⟩⟩))
  refine  (aR.to (Ox.alloc (cs := #[iv 0, iv 0, iv 0, .slice none 0 0, .slice none 0 0, .slice none 0 0, .slice none 0 0, .map none]) rfl mT rfl λ e6 _ _ => ⟨_, (.put rfl), ⟨rr, (ku (so sr)), ?_⟩⟩))
  refine Any.cv 3 oe (oI x0 (λ y => pL y eH) hG ay aB aF ⟨160, #[], #[_], rfl, B7, λ R' H' hR hH y r va hA hr => by obtain ⟨_, rfl, ⟨pZ, oN, p5, gv, fN, gw, rfl⟩⟩ := hA; exact (CX y eH gv fN gw (sL.up hR) (KL.mono hR) hr).mono λ _ _ _ ⟨h1, h2, h3⟩ => ⟨h1 ▸ rr, h2.symm, h3⟩⟩ mF) ?_
  rintro _ Jl _ ⟨mj, qd, vF, vG, vH, vI, vJ, ou, ov, ow, ox, sM, rfl, rfl⟩
  replace sL := sL.up (H := []) mj
  refine ⟨mj, (ku (aP (so sr))), ?_⟩
  refine Any.vs 3 [4, 5, 6] rfl ?_
  refine Any.on 8 rfl rfl (aR.to (Ox.bp (cs' := #[_, _, _, _, _, _, _, _]) rfl rfl rfl eK rfl (ak rfl (ak rfl (ak rfl (ak ou.one (ak ov.one (ak ow.one (ak ox.one (ak sM.one aW)))))))) (.skip .here) rfl rfl rfl (.refl _) ⟨rr, (ku (aP (so sr))), ?_⟩))
  refine Any.vs 1 [9] rfl ?_
  exact Any.done (At.drop (eD (sk (sk (so sr)))) (At.perm (Me _ _ _) (Qx _ _ _ ⟨(cV.trans mj), e6, vF, vG, vH, vI, vJ, qd, ou, ov, ow, ox, sM, rfl, aA.sub ⟨rfl, rfl, rfl, trivial⟩⟩)))
 refine  (aR.to (Ox.alloc (cs := #[iv 0, iv 0, iv 0, .slice none 0 0, .slice none 0 0, .slice none 0 0, .slice none 0 0, .map none]) rfl mT rfl λ e6 _ _ => ⟨_, (.put rfl), ⟨rr, (ku (so sr)), ?_⟩⟩))
 refine Any.cv 2 JW (K9 x1 h1 mE) ?_
 rintro _ y8 _ ⟨cV, rfl, aAH, ahQ, sL, KL, rfl⟩
 replace ay := ay.mono cV
 replace aB := aB.mono cV
 replace aF := aF.mono cV
 replace h1 := h1.mono cV
 replace hG := hG.mono cV
 refine ⟨cV, (ku (so sr)), ?_⟩
 refine Any.cv 3 oe (oI x0 (λ y => pL y eH) hG ay aB aF ⟨160, #[], #[_], rfl, B7, λ R' H' hR hH y r va hA hr => by obtain ⟨_, rfl, ⟨pZ, oN, p5, gv, fN, gw, rfl⟩⟩ := hA; exact (CX y eH gv fN gw (sL.up hR) (KL.mono hR) hr).mono λ _ _ _ ⟨h1, h2, h3⟩ => ⟨h1 ▸ rr, h2.symm, h3⟩⟩ mF) ?_
 rintro _ Jl _ ⟨mj, qd, vF, vG, vH, vI, vJ, ou, ov, ow, ox, sM, rfl, rfl⟩
 replace sL := sL.up (H := []) mj
 refine ⟨mj, (ku (aP (so sr))), ?_⟩
 refine Any.vs 3 [4, 5, 6] rfl ?_
 refine Any.on 8 rfl rfl (aR.to (Ox.bp (cs' := #[_, _, _, _, _, _, _, _]) rfl rfl rfl eK rfl (ak rfl (ak rfl (ak rfl (ak ou.one (ak ov.one (ak ow.one (ak ox.one (ak sM.one aW)))))))) (.skip .here) rfl rfl rfl (.refl _) ⟨rr, (ku (aP (so sr))), ?_⟩))
 refine Any.vs 1 [9] rfl ?_
 exact Any.done (At.drop (eD (sk (sk (so sr)))) (At.perm (Me _ _ _) (Qx _ _ _ ⟨(cV.trans mj), e6, vF, vG, vH, vI, vJ, qd, ou, ov, ow, ox, sM, rfl, aA.sub ⟨rfl, rfl, rfl, trivial⟩⟩)))
theorem Lf (x0 : aq) (x1 : bW) {aC aD aH : Value} (ay : aj bm 5 R aC x0.az) (aB : aj CZ 1 R aD x0.Out) (aF : aj bh 2 R aH x0.aO) {r : aq} (hM : tT x0 x1 = some r) : aJ ag 60 #[.agg #[iv x0.aE, iv x0.aa.an, iv x0.aa.ax, aC, aD, aH], .agg #[iv x1.dr, iv x1.dQ]] R H (λ v R' H' => aN R R' ∧ H = H' ∧ ∃ dK dL dM, aj bm 5 R' dK r.az ∧ aj CZ 1 R' dL r.Out ∧ aj bh 2 R' dM r.aO ∧ v = .agg #[iv r.aE, iv r.aa.an, iv r.aa.ax, dK, dL, dM]) := by
 unfold tT at hM
 refine aJ.aX Tryz.func60 rfl (n := 14) rfl rfl λ fr cs hk => ?_
 refine sg aS ?_
 refine bx λ iN => ?_
 refine bx λ gm => ?_
 refine At.s rfl rfl (Ox.alloc (cs := #[iv 0, iv 0, iv 0, .slice none 0 0, .slice none 0 0, .slice none 0 0]) rfl jP rfl λ jW _ _ => ⟨_, (.put rfl), ?_⟩)
 refine es ?_
 obtain ⟨fJ, qF, hM⟩ := ao hM
 obtain ⟨nO, uT, hM⟩ := ao hM
 refine At.cut (λ R' H' st' => R = R' ∧ ∃ (pY : Value) (tZ : au), aZ bh 2 47 R' pY nO tZ ∧ H' = tZ ++ ((jW, .cells #[iv 0, iv 0, iv 0, .slice none 0 0, .slice none 0 0, .slice none 0 0] 28) :: (iN, .cells #[iv x0.aE, iv x0.aa.an, iv x0.aa.ax, aC, aD, pY] 28) :: H) ∧ aK st' [(2, .pointer (some ⟨iN, 0, none⟩)), (4, .pointer (some ⟨jW, 0, none⟩))]) ?_ ?_
 ·rintro aHq aFC aPt ⟨rfl, pY, tZ, qy, rfl, arA⟩
  refine At.sub arA ?_
  refine sg aQ ?_
  refine lN [_, _, _, _, _, _] 0 6 aU (List.mem_append_right _ z1) ?_
  refine At.s rfl rfl (Ox.bp (cs' := #[_, _, _, _, _, _]) rfl rfl rfl aU rfl (ak rfl (ak rfl (ak rfl (ak ay.one (ak aB.one (ak qy.one aW)))))) (.skip .here) rfl rfl rfl (.refl _) ?_)
  refine er ?_
  refine At.dB (H2 := (jW, _) :: (iN, _) :: H) (λ X => X ++ ((jW, _) :: (iN, _) :: H)) .id rfl qy (λ agI sB Kx => ?_)
  replace ay := ay.mono sB
  replace aB := aB.mono sB
  obtain rfl := af hM
  exact rt Tryz.func60 (.agg rfl aU rfl (aT.box z0) .nil) (so (so sr)) (hk _ _ _ ⟨sB, rfl, aC, aD, pY, ay, aB, Kx, rfl⟩)
 intro Qz
 refine At.draw (n := 9) (is := [0, 1, 2, 3, 4, 5, 6, 7, 8]) (many ((jW, .cells #[iv 0, iv 0, iv 0, .slice none 0 0, .slice none 0 0, .slice none 0 0] 28) :: (gm, .cells #[iv x1.dr, iv x1.dQ] 47) :: (iN, .cells #[iv x0.aE, iv x0.aa.an, iv x0.aa.ax, aC, aD, aH] 28) :: H) [(8, (jW, .cells #[iv 0, iv 0, iv 0, .slice none 0 0, .slice none 0 0, .slice none 0 0] 28) :: (gm, .cells #[iv x1.dr, iv x1.dQ] 47) :: H)]) mixed rfl (by decide +kernel) rfl rfl ?_
 refine Any.vs 1 [1] rfl ?_
 refine ts 2 [3, 6, 7, 8] rfl (cq rfl (dm (su (so (so sr))))) (su (so (so sr))) (λ R' H' hR hS => Ox.bV rfl rfl eu ((aT.box (hS _ z0)).one (j := 5) rfl) rfl (.one rfl) ⟨rfl, rfl, rfl⟩) ?_
 refine ts 4 [5, 6, 7, 8] rfl (cq rfl (dm (su (so (sk (so sr)))))) (su (so (sk (so sr)))) (λ R' H' hR hS => Ox.bP (vs := [_, _]) rfl rfl mW rfl ((aT.box (hS _ z0)).part (j := 0) (n := 2) rfl) rfl (.one rfl) ⟨rfl, rfl, rfl⟩) ?_
 refine tw 0 5 ?_ ?_
 ·refine  (aR.to (Ox.buildSlice (cells := #[]) rfl o9 rfl (by decide) O1 aY rfl λ jX _ _ => ⟨_, (.put rfl), ⟨rr, (bO rfl (su (so sr))), ?_⟩⟩))
  refine tw 3 5 ?_ ?_
  ·refine  (aR.to (Ox.append (K := bh) (λ X => X ++ ((jW, _) :: (gm, _) :: (iN, _) :: H)) rfl rfl rfl n8 Tryz.underlying26 (by simp) .id (aZ.lit (aG.le aG.nil rfl) rfl) aF.arg qF rfl λ adf WM FX => ⟨_, (.put rfl), ⟨rr, (bO rfl (su (aP sr))), ?_⟩⟩))
   refine Any.on 5 rfl rfl (aR.to (Ox.buildSlice (cells := #[_, _]) rfl o9 rfl (by decide) uj (bf rfl rfl rfl rfl aY) rfl λ lW _ _ => ⟨_, (.put rfl), ⟨rr, (bO rfl (su (so (aP sr)))), ?_⟩⟩))
   refine Any.on 6 rfl rfl (aR.to (Ox.append (K := bh) (λ X => (lW, _) :: X ++ ((jW, _) :: (gm, _) :: (iN, _) :: H)) rfl rfl rfl n8 Tryz.underlying26 (by simp) (.cons .id) FX (cE.lit z0 (aG.le (aG.cons (x := x1) rfl rfl aG.nil) rfl) rfl) uT rfl λ pY tZ qy => ⟨_, (.put rfl), ⟨rr, (bO rfl (su (so (aP sr)))), ?_⟩⟩))
   refine Any.vs 1 [7] rfl ?_
   refine Any.on 8 rfl rfl (aR.to (Ox.cM (cs' := #[_, _, _, _, _, _]) rfl rfl rfl eu qy.one (.there (.skip (.there (.there .here)))) rfl rfl rfl (.refl _) ⟨rr, (bO rfl (su (so (aP (sk (sk (so sr))))))), ?_⟩))
   exact Any.done (At.drop (so (eD (sk (so sr)))) (Qz _ _ _ ⟨rfl, pY, tZ, qy, rfl, aA.sub ⟨rfl, rfl, trivial⟩⟩))
  refine  (aR.to (Ox.buildSlice (cells := #[_, _]) rfl o9 rfl (by decide) uj (bf rfl rfl rfl rfl aY) rfl λ lW _ _ => ⟨_, (.put rfl), ⟨rr, (bO rfl (su (so (so sr)))), ?_⟩⟩))
  refine Any.on 3 rfl rfl (aR.to (Ox.append (K := bh) (λ X => (lW, _) :: X ++ ((jW, _) :: (gm, _) :: (iN, _) :: H)) rfl rfl rfl n8 Tryz.underlying26 (by simp) (.cons .id) (aZ.lit (aG.le aG.nil rfl) rfl) aF.arg qF rfl λ adf WM FX => ⟨_, (.put rfl), ⟨rr, (bO rfl (su (so (aP sr)))), ?_⟩⟩))
  refine Any.on 6 rfl rfl (aR.to (Ox.append (K := bh) (λ X => (lW, _) :: X ++ ((jW, _) :: (gm, _) :: (iN, _) :: H)) rfl rfl rfl n8 Tryz.underlying26 (by simp) (.cons .id) FX (cE.lit z0 (aG.le (aG.cons (x := x1) rfl rfl aG.nil) rfl) rfl) uT rfl λ pY tZ qy => ⟨_, (.put rfl), ⟨rr, (bO rfl (su (so (aP sr)))), ?_⟩⟩))
  refine Any.vs 1 [7] rfl ?_
  refine Any.on 8 rfl rfl (aR.to (Ox.cM (cs' := #[_, _, _, _, _, _]) rfl rfl rfl eu qy.one (.there (.skip (.there (.there .here)))) rfl rfl rfl (.refl _) ⟨rr, (bO rfl (su (so (aP (sk (sk (so sr))))))), ?_⟩))
  exact Any.done (At.drop (so (eD (sk (so sr)))) (Qz _ _ _ ⟨rfl, pY, tZ, qy, rfl, aA.sub ⟨rfl, rfl, trivial⟩⟩))
 refine  (aR.to (Ox.buildSlice (cells := #[_, _]) rfl o9 rfl (by decide) uj (bf rfl rfl rfl rfl aY) rfl λ lW _ _ => ⟨_, (.put rfl), ⟨rr, (bO rfl (su (so sr))), ?_⟩⟩))
 refine Any.on 0 rfl rfl (aR.to (Ox.buildSlice (cells := #[]) rfl o9 rfl (by decide) O1 aY rfl λ jX _ _ => ⟨_, (.put rfl), ⟨rr, (bO rfl (su (so (so sr)))), ?_⟩⟩))
 refine Any.on 3 rfl rfl (aR.to (Ox.append (K := bh) (λ X => X ++ ((lW, _) :: (jW, _) :: (gm, _) :: (iN, _) :: H)) rfl rfl rfl n8 Tryz.underlying26 (by simp) .id (aZ.lit (aG.le aG.nil rfl) rfl) aF.arg qF rfl λ adf WM FX => ⟨_, (.put rfl), ⟨rr, (bO rfl (su (aP (so sr)))), ?_⟩⟩))
 refine Any.on 6 rfl rfl (aR.to (Ox.append (K := bh) (λ X => X ++ ((lW, _) :: (jW, _) :: (gm, _) :: (iN, _) :: H)) rfl rfl rfl n8 Tryz.underlying26 (by simp) .id FX (cE.lit (List.mem_append_right _ z0) (aG.le (aG.cons (x := x1) rfl rfl aG.nil) rfl) rfl) uT rfl λ pY tZ qy => ⟨_, (.put rfl), ⟨rr, (bO rfl (su (aP (so sr)))), ?_⟩⟩))
 refine Any.vs 1 [7] rfl ?_
 refine Any.on 8 rfl rfl (aR.to (Ox.cM (cs' := #[_, _, _, _, _, _]) rfl rfl rfl eu qy.one (.skip (.there (.there (.there .here)))) rfl rfl rfl (.refl _) ⟨rr, (bO rfl (su (aP (so (sk (sk (so sr))))))), ?_⟩))
 exact Any.done (At.drop (eD (so (sk (so sr)))) (Qz _ _ _ ⟨rfl, pY, tZ, qy, rfl, aA.sub ⟨rfl, rfl, trivial⟩⟩))
theorem abH (x0 : aq) (x1 : Int) {aC aD aH : Value} (ay : aj bm 5 R aC x0.az) (aB : aj CZ 1 R aD x0.Out) (aF : aj bh 2 R aH x0.aO) {r : aq} (hM : m64 x0 x1 = some r) : aJ ag 64 #[.agg #[iv x0.aE, iv x0.aa.an, iv x0.aa.ax, aC, aD, aH], iv x1] R H (λ v R' H' => aN R R' ∧ H = H' ∧ ∃ dK dL dM, aj bm 5 R' dK r.az ∧ aj CZ 1 R' dL r.Out ∧ aj bh 2 R' dM r.aO ∧ v = .agg #[iv r.aE, iv r.aa.an, iv r.aa.ax, dK, dL, dM]) := by
 unfold m64 at hM
 refine aJ.aX Tryz.func64 rfl (n := 14) rfl rfl λ fr cs hk => ?_
 refine sg aQ ?_
 refine bx λ jV => ?_
 refine At.s rfl rfl (Ox.alloc (cs := #[iv 0, iv 0, iv 0, .slice none 0 0, .slice none 0 0, .slice none 0 0]) rfl jP rfl λ gJ _ _ => ⟨_, (.put rfl), ?_⟩)
 refine nx gd ?_
 refine At.s rfl rfl (Ox.buildSlice (cells := #[]) rfl ck rfl (by decide) p7 aY rfl λ iN _ _ => ⟨_, (.put rfl), ?_⟩)
 refine vs 1 ?_
 refine ld 4 bL z2 ?_
 obtain ⟨iW, xm, hM⟩ := ao hM
 refine At.s rfl rfl (Ox.append (K := CZ) (λ X => X ++ ((gJ, _) :: (jV, _) :: H)) rfl rfl rfl cR Tryz.underlying25 (by simp) .id (aZ.lit (aG.le aG.nil rfl) rfl) aB.arg xm rfl λ aQe aFR apc => ⟨_, (.put rfl), ?_⟩)
 refine vs 1 ?_
 refine At.s rfl rfl (Ox.buildSlice (cells := #[_]) rfl ck rfl (by decide) cS (bf rfl rfl rfl rfl aY) rfl λ jW _ _ => ⟨_, (.put rfl), ?_⟩)
 obtain ⟨dW, mF, hM⟩ := ao hM
 refine At.s rfl rfl (Ox.append (K := CZ) (λ X => (jW, _) :: X ++ ((gJ, _) :: (jV, _) :: H)) rfl rfl rfl cR Tryz.underlying25 (by simp) (.cons .id) apc (cE.lit z0 (aG.le (aG.cons (x := x1) rfl rfl aG.nil) rfl) rfl) mF rfl λ U7 qd Cr => ⟨_, (.put rfl), ?_⟩)
 refine vs 1 ?_
 refine At.s rfl rfl (Ox.cM (cs' := #[_, _, _, _, _, _]) rfl rfl rfl bL Cr.one (.there (.skip (.there .here))) rfl rfl rfl (.refl _) ?_)
 refine nx aQ ?_
 refine At.s rfl rfl (Ox.bP (vs := [_, _, _, _, _, _]) rfl rfl aU rfl ((aT.box (.tail _ (List.mem_append_right _ z1))).part (j := 0) (n := 6) rfl) rfl (.put rfl) ?_)
 refine At.s rfl rfl (Ox.bp (cs' := #[_, _, _, _, _, _]) rfl rfl rfl aU rfl (ak rfl (ak rfl (ak rfl (ak ay.one (ak Cr.one (ak aF.one aW)))))) (.there (.skip .here)) rfl rfl rfl (.refl _) ?_)
 refine er ?_
 refine At.dB (H2 := (jW, _) :: (gJ, _) :: (jV, _) :: H) (λ X => (jW, _) :: X ++ ((gJ, _) :: (jV, _) :: H)) (.cons .id) rfl Cr (λ Xd k8 Cn => ?_)
 replace ay := ay.mono k8
 replace aF := aF.mono k8
 obtain rfl := af hM
 exact rt Tryz.func64 (.agg rfl aU rfl (aT.box z1) .nil) (so (so (so sr))) (hk _ _ _ ⟨k8, rfl, aC, U7, aH, ay, Cn, aF, rfl⟩)
theorem awW (x0 : bu) (x1 : cW) (x2 : (List Int)) {jM iH jN x8 x9 v2 : Value} {b1 b2 : Nat} (gx : x0.weights.length = 5) (cN : aT R H b1 0 [iv x1.book.aE, iv x1.book.aa.an, iv x1.book.aa.ax, jM, iH, jN, x8, x9]) (l5 : aj bm 5 R jM x1.book.az) (k6 : aj CZ 1 R iH x1.book.Out) (l6 : aj bh 2 R jN x1.book.aO) (_ : aj fL 6 R x8 x1.dR) (_ : m5 R x9 x1.nL) (bz : aT R H b2 0 [v2]) (h2 : aj CZ 1 R v2 x2) {r : Int} (hM : CP x0 x1 x2 = some r) : aJ ag 137 #[.agg (List.toArray ([iv x0.fB] ++ (x0.weights.map (Value.int .i64) ++ []))), .pointer (some ⟨b1, 0, none⟩), .pointer (some ⟨b2, 0, none⟩)] R H (λ v R' H' => R = R' ∧ H = H' ∧ v = iv r) := by
 unfold CP at hM
 refine aJ.aX Tryz.func137 rfl (n := 12) rfl rfl λ fr cs hk => ?_
 refine sg aQ ?_
 refine bx λ BY => ?_
 refine vs 1 ?_
 refine es ?_
 refine At.dw eC mixed ?_
 refine Any.vs 1 [0] rfl ?_
 refine Any.tk 1 rfl pp (λ R' H' hR hS => Ox.bP (vs := [_, _, _, _, _, _]) rfl rfl ew rfl (((cN.le hR).sub (λ p h => hS p ((su (so sr)) p h))).part (j := 0) (n := 6) rfl) rfl (.one rfl) ⟨rfl, rfl, rfl⟩) ?_
 refine Any.tk 2 rfl pp (λ R' H' hR hS => Ox.bP (vs := _) rfl rfl eP (by simp [gx]) ((aT.box (hS _ z0)).part (j := 0) (n := 6) (eE (by simp [gx]))) rfl (.one rfl) ⟨rfl, rfl, rfl⟩) ?_
 refine Any.tk 3 rfl pp (λ R' H' hR hS => Ox.qj (z := (List.toArray ([] ++ ([false, false, false, false, false].map Value.bool ++ [])))) rfl qg rfl (.one rfl) ⟨rfl, rfl, rfl⟩) ?_
 refine Any.tk 4 rfl pp (λ R' H' hR hS => Ox.bV rfl rfl bL (((bz.le hR).sub (λ p h => hS p ((su (so sr)) p h))).one (j := 0) rfl) rfl (.one rfl) ⟨rfl, rfl, rfl⟩) ?_
 obtain ⟨oO, Am, hM⟩ := ao hM
 refine Any.cv 5 fU (fX [false, false, false, false, false] x2 rfl h2.rd Am) ?_
 rintro _ _ _ ⟨rfl, rfl, K5, rfl⟩
 refine kp ?_
 obtain ⟨fQ, mD, hM⟩ := ao hM
 refine Any.cv 6 wO (xG x1.book x0 oO l5 k6 l6 gx K5 mD) ?_
 rintro _ _ _ ⟨rfl, rfl, rfl⟩
 refine kp ?_
 refine Any.vs 1 [7] rfl ?_
 refine Any.done ?_
 obtain rfl := af hM
 exact rt Tryz.func137 (.tmp rfl .nil) (so sr) (hk _ _ _ ⟨rfl, rfl, rfl⟩)
theorem axN (x0 : aq) (x1 : (List Int)) {aC aD aH v1 : Value} (hG : fM R) (ay : aj bm 5 R aC x0.az) (aB : aj CZ 1 R aD x0.Out) (aF : aj bh 2 R aH x0.aO) (h1 : aj CZ 1 R v1 x1) {r : (Reach × Int)} (hM : C5 x0 x1 = some r) : aJ ag 71 #[.agg #[iv x0.aE, iv x0.aa.an, iv x0.aa.ax, aC, aD, aH], v1] R H (λ v R' H' => aN R R' ∧ H = H' ∧ v = .tuple #[.agg #[iv r.1.an, iv r.1.ax], iv r.2]) := by
 unfold C5 at hM
 refine aJ.aX Tryz.func71 rfl (n := 33) rfl rfl λ fr cs hk => ?_
 refine sg bn ?_
 refine bx λ lW => ?_
 refine At.s rfl rfl (Ox.uk rfl rfl h1.cells rfl λ e7 _ _ => ⟨_, (.put rfl), ?_⟩)
 refine At.s rfl rfl (Ox.alloc (cs := #[iv 0, iv 0]) rfl tK rfl λ o6 _ _ => ⟨_, (.put rfl), ?_⟩)
 refine vs 1 ?_
 refine es ?_
 obtain ⟨js, xo, hM⟩ := ao hM
 obtain ⟨eI, uU, hM⟩ := ao hM
 refine At.cut (λ R' H' st' => aN R R' ∧ ∃ (fS : Nat) (rz : Value) (rA : Value) (rB : Value) (rC : Value) (rD : Value) (ua : au), aj bm 5 R' rz eI.1.book.az ∧ aj CZ 1 R' rA eI.1.book.Out ∧ aj bh 2 R' rB eI.1.book.aO ∧ aj fL 6 R' rC eI.1.dR ∧ lT rD eI.1.nL ua ∧ H' = (fS, .cells #[iv eI.1.book.aE, iv eI.1.book.aa.an, iv eI.1.book.aa.ax, rz, rA, rB, rC, rD] 106) :: ua ++ ((o6, .cells #[iv 0, iv 0] 23) :: (e7, .cells #[v1] 25) :: H) ∧ aK st' [(3, .pointer (some ⟨e7, 0, none⟩)), (4, .pointer (some ⟨o6, 0, none⟩)), (6, .pointer (some ⟨fS, 0, none⟩)), (7, iv eI.2)]) ?_ ?_
 ·rintro aHr aFD aPu ⟨Qh, fS, rz, rA, rB, rC, rD, ua, oy, oz, oA, oB, sR, rfl, arB⟩
  refine At.sub arB ?_
  replace h1 := h1.mono Qh
  refine sq ?_
  refine sg aQ ?_
  refine vs 2 ?_
  refine er ?_
  refine sc hM (λ uL hM => ?_) (λ uL hM => ?_)
  ·refine sg bn ?_
   refine At.s rfl rfl (Ox.build (cells := #[_, _]) rfl HN rfl aY rfl (.put rfl) ?_)
   refine vs 1 ?_
   refine At.s rfl rfl (Ox.bp (cs' := #[_, _]) rfl rfl rfl eJ rfl (ak rfl (ak rfl aW)) (.there (.skip .here)) rfl rfl rfl (.refl _) ?_)
   refine vs 1 ?_
   refine er ?_
   obtain rfl := af hM
   exact rt Tryz.func71 (.agg rfl eJ rfl (aT.box (.tail _ (List.mem_append_right _ z0))) (.tmp rfl .nil)) (so (aP (so (so sr)))) (hk _ _ _ ⟨Qh, rfl, rfl⟩)
  refine sp ?_
  refine sg bn ?_
  refine lN [_, _, _, _, _, _, _, _] 0 8 eK z0 ?_
  refine At.s rfl rfl (Ox.makeFunc (vs := #[]) (us := #[_, _]) rfl rfl rfl rfl (.put rfl) ?_)
  refine At.Fg (H2 := (fS, _) :: (o6, _) :: (e7, _) :: H) (λ X => (fS, _) :: X ++ ((o6, _) :: (e7, _) :: H)) (.cons .id) rfl sR (λ agJ qo Ky => ?_)
  replace h1 := h1.mono qo
  replace oy := oy.mono qo
  replace oz := oz.mono qo
  replace oA := oA.mono qo
  replace oB := oB.mono qo
  obtain ⟨fc, oC, hM⟩ := ao hM
  refine At.cv YN (aby eI.1 (λ y => CP y eI.1 x1) oy oz oA oB Ky ⟨137, #[], #[_, _], rfl, aio, λ R' H' hR hH y r va hA hr => by obtain ⟨_, rfl, ⟨AE, rfl⟩⟩ := hA; exact (awW y eI.1 x1 AE (aT.box (hH _ z0)) (oy.mono hR) (oz.mono hR) (oA.mono hR) (oB.mono hR) (Ky.mono hR) (aT.box (hH _ z2)) (h1.mono hR) hr).mono λ _ _ _ ⟨h1, h2, h3⟩ => ⟨h1 ▸ rr, h2.symm, h3⟩⟩ oC) ?_
  rintro aQy EL _ ⟨pz, rfl, _, Tu, rfl⟩
  refine vs 1 ?_
  refine es ?_
  refine At.draw (n := 12) (is := [0, 1, 2, 3, 4, 5, 6, 7, 8, 9, 10, 11]) (many ((fS, .cells #[iv eI.1.book.aE, iv eI.1.book.aa.an, iv eI.1.book.aa.ax, rz, rA, rB, rC, rD] 106) :: (o6, .cells #[iv 0, iv 0] 23) :: (e7, .cells #[v1] 25) :: H) [(10, (fS, .cells #[iv eI.1.book.aE, iv eI.1.book.aa.an, iv eI.1.book.aa.ax, rz, rA, rB, rC, rD] 106) :: (e7, .cells #[v1] 25) :: H)]) mixed rfl (by decide +kernel) rfl rfl ?_
  refine Any.vs 1 [0] rfl ?_
  obtain ⟨nP, Tv, hM⟩ := ao hM
  obtain ⟨p6, pC, hM⟩ := ao hM
  obtain ⟨aJ0, aMZ, _, rfl, alV, anM⟩ := Tu.elem cL Tv
  refine ts 1 [2, 9, 10, 11] rfl (cq rfl (dm (su (so (so (so sr)))))) (su (so (so (so sr)))) (λ R' H' hR hS => Ox.bq rfl rfl rfl anM rfl (.one rfl) ⟨rfl, rfl, rfl⟩) ?_
  refine ts 2 [9, 10, 11] rfl (cq rfl (dm (su (so (so (so sr)))))) (su (so (so (so sr)))) (λ R' H' hR hS => Ox.bV rfl rfl bg ((alV.up hR).one (j := 0) rfl) rfl (.one rfl) ⟨rfl, rfl, rfl⟩) ?_
  refine Any.vs 2 [3, 4] rfl ?_
  refine ts 5 [6, 7, 8, 9, 10, 11] rfl (cq rfl (dm (su (so (so (so sr)))))) (su (so (so (so sr)))) (λ R' H' hR hS => Ox.tP (K := CZ) (k := 1) (xs := fc) rfl rfl (Tu.mono hR) Tryz.underlying25 rfl (.one rfl) ⟨rfl, rfl, rfl⟩) ?_
  refine Any.vs 1 [6] rfl ?_
  obtain ⟨aJ1, aM0, _, rfl, alW, anN⟩ := Tu.elem cL pC
  refine ts 7 [8, 9, 10, 11] rfl (cq rfl (dm (su (so (so (so sr)))))) (su (so (so (so sr)))) (λ R' H' hR hS => Ox.bq rfl rfl rfl anN rfl (.one rfl) ⟨rfl, rfl, rfl⟩) ?_
  refine ts 8 [9, 10, 11] rfl (cq rfl (dm (su (so (so (so sr)))))) (su (so (so (so sr)))) (λ R' H' hR hS => Ox.bV rfl rfl bg ((alW.up hR).one (j := 0) rfl) rfl (.one rfl) ⟨rfl, rfl, rfl⟩) ?_
  refine ts 9 [10, 11] rfl (cq rfl (dm (su (so (so (so sr)))))) (su (so (so (so sr)))) (λ R' H' hR hS => Ox.build (cells := #[_, _]) rfl HN rfl (bf rfl rfl rfl rfl (bf rfl rfl rfl rfl aY)) rfl (.one rfl) ⟨rfl, rfl, rfl⟩) ?_
  refine Any.on 10 rfl rfl (aR.to (Ox.bp (cs' := #[_, _]) rfl rfl rfl eJ rfl (ak rfl (ak rfl aW)) (.there .here) rfl rfl rfl (.refl _) ⟨rr, (bO rfl (su (sk (so sr)))), ?_⟩))
  refine Any.vs 1 [11] rfl ?_
  refine Any.done ?_
  obtain rfl := af hM
  exact rt Tryz.func71 (.agg rfl eJ rfl (aT.box z1) (.tmp rfl .nil)) (so (so (so sr))) (hk _ _ _ ⟨((Qh.trans qo).trans pz), rfl, rfl⟩)
 intro QA
 refine At.dw mM mixed ?_
 refine tN 0 [_, _, _, _, _, _] 0 6 aU z2 ?_
 refine tl 1 0 bL z1 ?_
 refine tw 2 7 ?_ ?_
 ·refine  (Ox.dO rfl rfl rfl rfl JW rfl rfl ((K9 x1 h1 xo).mono ?_))
  rintro _ Xl _ ⟨j3, rfl, aAP, ahS, sQ, KN, rfl⟩
  replace ay := ay.mono j3
  replace aB := aB.mono j3
  replace aF := aF.mono j3
  replace h1 := h1.mono j3
  replace hG := hG.mono j3
  refine ⟨_, (.put rfl), ⟨j3, ka, ?_⟩⟩
  refine tw 3 7 ?_ ?_
  ·refine  (Ox.dO rfl rfl rfl rfl oe rfl rfl ((oI x0 (λ y => pL y js) hG ay aB aF ⟨160, #[], #[_], rfl, B7, λ R' H' hR hH y r va hA hr => by obtain ⟨_, rfl, ⟨pZ, oN, p5, gv, fN, gw, rfl⟩⟩ := hA; exact (CX y js gv fN gw (sQ.up hR) (KN.mono hR) hr).mono λ _ _ _ ⟨h1, h2, h3⟩ => ⟨h1 ▸ rr, h2.symm, h3⟩⟩ uU).mono ?_))
   rintro _ Jm _ ⟨iA, ua, rz, rA, rB, rC, rD, oy, oz, oA, oB, sR, rfl, rfl⟩
   replace sQ := sQ.up (H := []) iA
   refine ⟨_, (.put rfl), ⟨iA, (ku (aP sr)), ?_⟩⟩
   refine Any.vs 3 [4, 5, 6] rfl ?_
   refine Any.on 7 rfl rfl (aR.to (Ox.alloc (cs := #[iv 0, iv 0, iv 0, .slice none 0 0, .slice none 0 0, .slice none 0 0, .slice none 0 0, .map none]) rfl mT rfl λ fS _ _ => ⟨_, (.put rfl), ⟨rr, (ku (so (aP sr))), ?_⟩⟩))
   refine Any.on 8 rfl rfl (aR.to (Ox.bp (cs' := #[_, _, _, _, _, _, _, _]) rfl rfl rfl eK rfl (ak rfl (ak rfl (ak rfl (ak oy.one (ak oz.one (ak oA.one (ak oB.one (ak sR.one aW)))))))) .here rfl rfl rfl (.refl _) ⟨rr, (ku (so (aP sr))), ?_⟩))
   refine Any.vs 1 [9] rfl ?_
   exact Any.done (At.drop (sk (eD (sk (sk (so sr))))) (QA _ _ _ ⟨(j3.trans iA), fS, rz, rA, rB, rC, rD, ua, oy, oz, oA, oB, sR, rfl, aA.sub ⟨rfl, rfl, rfl, rfl, trivial⟩⟩))
  refine  (aR.to (Ox.alloc (cs := #[iv 0, iv 0, iv 0, .slice none 0 0, .slice none 0 0, .slice none 0 0, .slice none 0 0, .map none]) rfl mT rfl λ fS _ _ => ⟨_, (.put rfl), ⟨rr, (ku (so sr)), ?_⟩⟩))
  refine Any.cv 3 oe (oI x0 (λ y => pL y js) hG ay aB aF ⟨160, #[], #[_], rfl, B7, λ R' H' hR hH y r va hA hr => by obtain ⟨_, rfl, ⟨pZ, oN, p5, gv, fN, gw, rfl⟩⟩ := hA; exact (CX y js gv fN gw (sQ.up hR) (KN.mono hR) hr).mono λ _ _ _ ⟨h1, h2, h3⟩ => ⟨h1 ▸ rr, h2.symm, h3⟩⟩ uU) ?_
  rintro _ Jm _ ⟨iA, ua, rz, rA, rB, rC, rD, oy, oz, oA, oB, sR, rfl, rfl⟩
  replace sQ := sQ.up (H := []) iA
  refine ⟨iA, (ku (aP (so sr))), ?_⟩
  refine Any.vs 3 [4, 5, 6] rfl ?_
  refine Any.on 8 rfl rfl (aR.to (Ox.bp (cs' := #[_, _, _, _, _, _, _, _]) rfl rfl rfl eK rfl (ak rfl (ak rfl (ak rfl (ak oy.one (ak oz.one (ak oA.one (ak oB.one (ak sR.one aW)))))))) (.skip .here) rfl rfl rfl (.refl _) ⟨rr, (ku (aP (so sr))), ?_⟩))
  refine Any.vs 1 [9] rfl ?_
  exact Any.done (At.drop (eD (sk (sk (sk (so sr))))) (At.perm (Me _ _ _) (QA _ _ _ ⟨(j3.trans iA), fS, rz, rA, rB, rC, rD, ua, oy, oz, oA, oB, sR, rfl, aA.sub ⟨rfl, rfl, rfl, rfl, trivial⟩⟩)))
 refine  (aR.to (Ox.alloc (cs := #[iv 0, iv 0, iv 0, .slice none 0 0, .slice none 0 0, .slice none 0 0, .slice none 0 0, .map none]) rfl mT rfl λ fS _ _ => ⟨_, (.put rfl), ⟨rr, (ku (so sr)), ?_⟩⟩))
 refine Any.cv 2 JW (K9 x1 h1 xo) ?_
 rintro _ Xl _ ⟨j3, rfl, aAP, ahS, sQ, KN, rfl⟩
 replace ay := ay.mono j3
 replace aB := aB.mono j3
 replace aF := aF.mono j3
 replace h1 := h1.mono j3
 replace hG := hG.mono j3
 refine ⟨j3, (ku (so sr)), ?_⟩
 refine Any.cv 3 oe (oI x0 (λ y => pL y js) hG ay aB aF ⟨160, #[], #[_], rfl, B7, λ R' H' hR hH y r va hA hr => by obtain ⟨_, rfl, ⟨pZ, oN, p5, gv, fN, gw, rfl⟩⟩ := hA; exact (CX y js gv fN gw (sQ.up hR) (KN.mono hR) hr).mono λ _ _ _ ⟨h1, h2, h3⟩ => ⟨h1 ▸ rr, h2.symm, h3⟩⟩ uU) ?_
 rintro _ Jm _ ⟨iA, ua, rz, rA, rB, rC, rD, oy, oz, oA, oB, sR, rfl, rfl⟩
 replace sQ := sQ.up (H := []) iA
 refine ⟨iA, (ku (aP (so sr))), ?_⟩
 refine Any.vs 3 [4, 5, 6] rfl ?_
 refine Any.on 8 rfl rfl (aR.to (Ox.bp (cs' := #[_, _, _, _, _, _, _, _]) rfl rfl rfl eK rfl (ak rfl (ak rfl (ak rfl (ak oy.one (ak oz.one (ak oA.one (ak oB.one (ak sR.one aW)))))))) (.skip .here) rfl rfl rfl (.refl _) ⟨rr, (ku (aP (so sr))), ?_⟩))
 refine Any.vs 1 [9] rfl ?_
 exact Any.done (At.drop (eD (sk (sk (sk (so sr))))) (At.perm (Me _ _ _) (QA _ _ _ ⟨(j3.trans iA), fS, rz, rA, rB, rC, rD, ua, oy, oz, oA, oB, sR, rfl, aA.sub ⟨rfl, rfl, rfl, rfl, trivial⟩⟩)))
theorem axO   {r : aq} (hM : Ht  = some r) : aJ ag 87 #[] R H (λ v R' H' => aN R R' ∧ H = H' ∧ ∃ dK dL dM, aj bm 5 R' dK r.az ∧ aj CZ 1 R' dL r.Out ∧ aj bh 2 R' dM r.aO ∧ v = .agg #[iv r.aE, iv r.aa.an, iv r.aa.ax, dK, dL, dM]) := by
 unfold Ht at hM
 refine aJ.aX Tryz.func87 rfl (n := 10) rfl rfl λ fr cs hk => ?_
 refine sg aL ?_
 refine At.s rfl rfl (Ox.alloc (cs := #[iv 0, iv 0, iv 0, .slice none 0 0, .slice none 0 0, .slice none 0 0]) rfl jP rfl λ gJ _ _ => ⟨_, (.put rfl), ?_⟩)
 refine nx mM ?_
 obtain ⟨ei, uS, hM⟩ := ao hM
 refine At.cv PK (Um 20 21  uS) ?_
 rintro _ _ _ ⟨rfl, rfl, rfl⟩
 refine At.s rfl rfl (Ox.build (cells := #[_, _, _, _, _]) rfl UU rfl (bf rfl rfl rfl rfl (bf rfl rfl rfl rfl (bf rfl rfl rfl rfl aY))) rfl (.put rfl) ?_)
 obtain ⟨iW, xm, hM⟩ := ao hM
 refine At.cv PF (Uj 30  xm) ?_
 rintro _ _ _ ⟨rfl, rfl, rfl⟩
 refine At.s rfl rfl (Ox.build (cells := #[_, _, _, _, _]) rfl UU rfl (bf rfl rfl rfl rfl (bf rfl rfl rfl rfl (bf rfl rfl rfl rfl aY))) rfl (.put rfl) ?_)
 obtain ⟨eH, mE, hM⟩ := ao hM
 refine At.cv PF (Uj 10  mE) ?_
 rintro _ _ _ ⟨rfl, rfl, rfl⟩
 refine At.s rfl rfl (Ox.buildSlice (cells := #[_]) rfl ck rfl (by decide) cS (bf rfl rfl rfl rfl aY) rfl λ jX _ _ => ⟨_, (.put rfl), ?_⟩)
 refine At.s rfl rfl (Ox.build (cells := #[_, _, _, _, _]) rfl UU rfl (bf rfl rfl rfl rfl (bf rfl rfl rfl rfl (bf rfl rfl rfl rfl (bf rfl rfl rfl rfl aY)))) rfl (.put rfl) ?_)
 refine At.ql (K := CZ) (k := 1) (H2 := (gJ, _) :: H) (λ X => X ++ ((gJ, _) :: H)) .id rfl (aG.le (aG.cons (x := 0) rfl rfl aG.nil) rfl) rfl (λ aHP akU amE => ?_)
 refine At.s rfl rfl (Ox.buildSlice (cells := #[_, _, _, _, _, _, _, _, _, _, _, _, _, _, _]) rfl Po rfl (by decide) ahL (bf (cells' := #[_, _, _, _, _, _, _, _, _, _, _, _, _, _, _]) rfl rfl rfl rfl (bf (cells' := #[_, _, _, _, _, _, _, _, _, _, _, _, _, _, _]) rfl rfl rfl rfl (bf (cells' := #[_, _, _, _, _, _, _, _, _, _, _, _, _, _, _]) rfl rfl rfl rfl aY))) rfl λ e6 _ _ => ⟨_, (.put rfl), ?_⟩)
 refine At.s rfl rfl (Ox.build (cells := #[_, _, _, _, _, _]) rfl j5 rfl (bf rfl rfl rfl rfl (bf rfl rfl rfl rfl aY)) rfl (.put rfl) ?_)
 refine At.s rfl rfl (Ox.bp (cs' := #[_, _, _, _, _, _]) rfl rfl rfl aU rfl (ak rfl (ak rfl (ak rfl (ak rfl (ak rfl (ak rfl aW)))))) (.there .here) rfl rfl rfl (.refl _) ?_)
 refine er ?_
 refine At.ql (K := bm) (k := 5) (H2 := (gJ, _) :: H) (λ X => X ++ ((gJ, _) :: H)) .id rfl (aG.le (aG.cons (x := (⟨⟨#[103, 117, 110]⟩, (-3), ⟨ei.an, ei.ax⟩, []⟩ : cG)) ⟨_, aj.nil, rfl⟩ rfl (aG.cons (x := (⟨⟨#[99, 104, 101, 115, 116]⟩, 2, ⟨iW.an, iW.ax⟩, []⟩ : cG)) ⟨_, aj.nil, rfl⟩ rfl (aG.cons (x := (⟨⟨#[97, 110, 99, 104, 111, 114]⟩, 1, ⟨eH.an, eH.ax⟩, [0]⟩ : cG)) ⟨_, amE, rfl⟩ rfl aG.nil))) rfl) rfl (λ agH Fu QW => ?_)
 obtain rfl := af hM
 exact rt Tryz.func87 (.agg rfl aU rfl (aT.box z0) .nil) (so sr) (hk _ _ _ ⟨(akU.trans Fu), rfl, .slice (some ⟨e6, 0, none⟩) 3 3, .slice none 0 0, .slice none 0 0, QW, aj.nil, aj.nil, rfl⟩)
end
end Go.Proofs.YtabamagholjdcaaGreatDoor
