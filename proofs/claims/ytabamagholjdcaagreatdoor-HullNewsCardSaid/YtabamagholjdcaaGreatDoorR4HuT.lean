/- Walks, part 6: each function computes its model. -/
import Derived.Test.YtabamagholjdcaaGreatDoorQAHuP8
import Derived.Test.YtabamagholjdcaaGreatDoorQALgD
namespace Go.Proofs.YtabamagholjdcaaGreatDoor
open Go.Lg Go.Proofs
set_option maxRecDepth 100000
set_option maxHeartbeats 4000000
section
variable {B : Base} {main : Bool} {ag : Jd Tryz.prog B main} {R : aI} {H : au}
theorem aUI {PW : Value → World → Prop} (x0 : aq) (x1 : bW) (x2 : Int) (x3 : Reach) {aC aD aH : Value} (hG : fM R) (hK : y6 (Hv Tryz.prog B PW)) (ay : aj bm 5 R aC x0.az) (aB : aj CZ 1 R aD x0.Out) (aF : aj bh 2 R aH x0.aO) {r : Bool} (hM : m4 x0 x1 x2 x3 = some r) : Jo Tryz.prog B PW 4 #[.agg #[iv x0.aE, iv x0.aa.an, iv x0.aa.ax, aC, aD, aH], .agg #[iv x1.dr, iv x1.dQ], iv x2, .agg #[iv x3.an, iv x3.ax]] R H (λ v R' H' => aN R R' ∧ H = H' ∧ v = .bool r) := by
 unfold m4 at hM
 refine Jo.aX (args := [.agg #[iv x0.aE, iv x0.aa.an, iv x0.aa.ax, aC, aD, aH], .agg #[iv x1.dr, iv x1.dQ], iv x2, .agg #[iv x3.an, iv x3.ax]]) Tryz.func4 rfl (n := 133) rfl rfl λ hk => ?_
 refine sg bn ?_
 refine bx λ NS => ?_
 refine bx λ Ei => ?_
 refine bx λ VD => ?_
 refine vs 1 ?_
 refine es ?_
 refine sg aQ ?_
 refine lN [_, _, _, _, _, _] 0 6 aU z2 ?_
 obtain ⟨nY, Cz, hM⟩ := ao hM
 refine At.cv aej (aeT x0 ay aB aF Cz) ?_
 rintro _ _ _ ⟨rfl, rfl, rfl⟩
 refine er ?_
 refine sc hM (λ aez hM => ?_) (λ aez hM => ?_)
 ·refine sg aQ ?_
  obtain ⟨yK, aa6, hM⟩ := ao hM
  refine At.cv V9 (Wj  hG hK aa6) ?_
  rintro _ aV0 _ ⟨aTa, rfl, rfl⟩
  refine vs 1 ?_
  refine er ?_
  obtain rfl := af hM
  exact At.wo Tryz.func4 (by kernel_rfl) (.tmp rfl .nil) (so (so (so sr))) hk ⟨aTa, rfl, rfl⟩
 refine sp ?_
 refine sg dY ?_
 refine lN [_, _, _, _, _, _] 0 6 aU z2 ?_
 obtain ⟨mV, CA, hM⟩ := ao hM
 refine At.cv aek (aeU x0 hG ay aB aF CA) ?_
 rintro _ aSL _ ⟨VU, rfl, aWI, aLT, rfl⟩
 replace ay := ay.mono VU
 replace aB := aB.mono VU
 replace aF := aF.mono VU
 replace hG := hG.mono VU
 refine vs 5 ?_
 refine nx dY ?_
 refine lN [_, _, _, _, _, _] 0 6 aU z2 ?_
 obtain ⟨DW, aLU, hM⟩ := ao hM
 refine At.cv aDj (aDI x0 ay aB aF aLU) ?_
 rintro _ aRv _ ⟨DY, rfl, aVi, aCA, rfl⟩
 replace ay := ay.mono DY
 replace aB := aB.mono DY
 replace aF := aF.mono DY
 replace hG := hG.mono DY
 replace aLT := aLT.mono DY
 refine vs 5 ?_
 refine es ?_
 refine sq ?_
 refine At.gR hM (λ (aed : Bool) R' H' st' => aRv = R' ∧ H' = (VD, .cells #[iv x3.an, iv x3.ax] 23) :: (Ei, .cells #[iv x1.dr, iv x1.dQ] 47) :: (NS, .cells #[iv x0.aE, iv x0.aa.an, iv x0.aa.ax, aC, aD, aH] 28) :: H ∧ aK st' [(2, iv x2), (4, .pointer (some ⟨NS, 0, none⟩)), (5, .pointer (some ⟨Ei, 0, none⟩)), (7, .pointer (some ⟨VD, 0, none⟩)), (40, .bool aed)])  ?_ ?_
 rotate_right
 ·intro D8 hM aRG
  refine At.rg gd ?_
  refine vs 2 ?_
  obtain ⟨rO, KV, hM⟩ := ao hM
  refine At.cv JY (Le mV.1 DW.1 aLT.rd aCA.rd KV) ?_
  rintro _ _ _ ⟨rfl, rfl, rfl⟩
  refine vs 2 ?_
  refine bA hM (λ aLw hM => ?_) (λ aLw hM => ?_)
  ·refine At.kn 36 aLw ?_
   refine vs 4 ?_
   refine er ?_
   exact aRG _ (af hM).symm _ _ _ ⟨rfl, rfl, aA.sub ⟨rfl, rfl, rfl, rfl, rfl, trivial⟩⟩
  refine At.kn 36 aLw ?_
  refine vs 4 ?_
  refine er ?_
  exact aRG _ (af hM).symm _ _ _ ⟨rfl, rfl, aA.sub ⟨rfl, rfl, rfl, rfl, rfl, trivial⟩⟩
 rintro aed aVD aVr aWg ⟨rfl, rfl, aTu⟩ hM
 refine At.sub aTu ?_
 refine sc hM (λ Nn hM => ?_) (λ Nn hM => ?_)
 ·refine sg aL ?_
  refine vs 1 ?_
  refine er ?_
  obtain rfl := af hM
  exact At.wo Tryz.func4 (by kernel_rfl) (.tmp rfl .nil) (so (so (so sr))) hk ⟨(VU.trans DY), rfl, rfl⟩
 refine sp ?_
 refine sg gd ?_
 refine lN [_, _, _, _, _, _] 0 6 aU z2 ?_
 obtain ⟨kV, Bw, hM⟩ := ao hM
 refine At.cv afc (afz x0 hG ay aB aF Bw) ?_
 rintro _ ae5 _ ⟨nS, rfl, rfl⟩
 replace ay := ay.mono nS
 replace aB := aB.mono nS
 replace aF := aF.mono nS
 replace hG := hG.mono nS
 refine vs 7 ?_
 refine nx gd ?_
 refine lN [_, _, _, _, _, _] 0 6 aU z2 ?_
 obtain ⟨iL, CC, hM⟩ := ao hM
 refine At.cv aDk (aDJ x0 ay aB aF CC) ?_
 rintro _ aRw _ ⟨FG, rfl, rfl⟩
 replace ay := ay.mono FG
 replace aB := aB.mono FG
 replace aF := aF.mono FG
 replace hG := hG.mono FG
 refine vs 7 ?_
 refine es ?_
 refine sq ?_
 refine At.gR hM (λ (aef : Bool) R' H' st' => aRw = R' ∧ H' = (VD, .cells #[iv x3.an, iv x3.ax] 23) :: (Ei, .cells #[iv x1.dr, iv x1.dQ] 47) :: (NS, .cells #[iv x0.aE, iv x0.aa.an, iv x0.aa.ax, aC, aD, aH] 28) :: H ∧ aK st' [(2, iv x2), (4, .pointer (some ⟨NS, 0, none⟩)), (5, .pointer (some ⟨Ei, 0, none⟩)), (7, .pointer (some ⟨VD, 0, none⟩)), (65, .bool aef)])  ?_ ?_
 rotate_right
 ·intro yL hM aKU
  refine At.rg BL ?_
  refine vs 4 ?_
  refine bA hM (λ z9 hM => ?_) (λ z9 hM => ?_)
  ·refine At.kn 56 z9 ?_
   refine vs 9 ?_
   refine er ?_
   exact aKU _ (af hM).symm _ _ _ ⟨rfl, rfl, aA.sub ⟨rfl, rfl, rfl, rfl, rfl, trivial⟩⟩
  refine At.kn 56 z9 ?_
  refine vs 5 ?_
  refine bA hM (λ aak hM => ?_) (λ aak hM => ?_)
  ·refine At.kn 61 aak ?_
   refine vs 4 ?_
   refine er ?_
   exact aKU _ (af hM).symm _ _ _ ⟨rfl, rfl, aA.sub ⟨rfl, rfl, rfl, rfl, rfl, trivial⟩⟩
  refine At.kn 61 aak ?_
  refine vs 4 ?_
  refine er ?_
  exact aKU _ (af hM).symm _ _ _ ⟨rfl, rfl, aA.sub ⟨rfl, rfl, rfl, rfl, rfl, trivial⟩⟩
 rintro aef aVG aVu aWk ⟨rfl, rfl, aTy⟩ hM
 refine At.sub aTy ?_
 refine sc hM (λ Nk hM => ?_) (λ Nk hM => ?_)
 ·refine sg aL ?_
  refine vs 1 ?_
  refine er ?_
  obtain rfl := af hM
  exact At.wo Tryz.func4 (by kernel_rfl) (.tmp rfl .nil) (so (so (so sr))) hk ⟨(((VU.trans DY).trans nS).trans FG), rfl, rfl⟩
 refine sp ?_
 refine sg gd ?_
 refine lN [_, _, _, _, _, _] 0 6 aU z2 ?_
 refine lN [_, _] 0 2 mW z1 ?_
 obtain ⟨oW, aar, hM⟩ := ao hM
 refine At.cv afd (afA x0 x1 hG ay aB aF aar) ?_
 rintro _ VC _ ⟨rQ, rfl, aU7, aU8, aU9, aDt, aDu, aDv, rfl⟩
 replace ay := ay.mono rQ
 replace aB := aB.mono rQ
 replace aF := aF.mono rQ
 replace hG := hG.mono rQ
 refine vs 3 ?_
 refine At.s rfl rfl (Ox.alloc (cs := #[iv 0, iv 0, iv 0, .slice none 0 0, .slice none 0 0, .slice none 0 0]) rfl jP rfl λ aDb _ _ => ⟨_, (.put rfl), ?_⟩)
 refine At.s rfl rfl (Ox.bp (cs' := #[_, _, _, _, _, _]) rfl rfl rfl aU rfl (ak rfl (ak rfl (ak rfl (ak aDt.one (ak aDu.one (ak aDv.one aW)))))) .here rfl rfl rfl (.refl _) ?_)
 refine vs 1 ?_
 refine nx gd ?_
 refine lN [_, _, _, _, _, _] 0 6 aU z3 ?_
 refine lN [_, _] 0 2 mW z2 ?_
 obtain ⟨N3, aTG, hM⟩ := ao hM
 refine At.cv aDl (aDK x0 x1 ay aB aF aTG) ?_
 rintro _ aSG _ ⟨Wd, rfl, aVa, aVb, aVc, aRN, aRO, aRP, rfl⟩
 replace ay := ay.mono Wd
 replace aB := aB.mono Wd
 replace aF := aF.mono Wd
 replace hG := hG.mono Wd
 replace aDt := aDt.mono Wd
 replace aDu := aDu.mono Wd
 replace aDv := aDv.mono Wd
 refine vs 3 ?_
 refine At.s rfl rfl (Ox.alloc (cs := #[iv 0, iv 0, iv 0, .slice none 0 0, .slice none 0 0, .slice none 0 0]) rfl jP rfl λ VO _ _ => ⟨_, (.put rfl), ?_⟩)
 refine At.s rfl rfl (Ox.bp (cs' := #[_, _, _, _, _, _]) rfl rfl rfl aU rfl (ak rfl (ak rfl (ak rfl (ak aRN.one (ak aRO.one (ak aRP.one aW)))))) .here rfl rfl rfl (.refl _) ?_)
 refine vs 1 ?_
 refine es ?_
 refine sq ?_
 refine At.gR hM (λ (ad8 : Bool) R' H' st' => aSG = R' ∧ H' = (VO, .cells #[iv N3.1.aE, iv N3.1.aa.an, iv N3.1.aa.ax, aVa, aVb, aVc] 28) :: (aDb, .cells #[iv oW.1.aE, iv oW.1.aa.an, iv oW.1.aa.ax, aU7, aU8, aU9] 28) :: (VD, .cells #[iv x3.an, iv x3.ax] 23) :: (NS, .cells #[iv x0.aE, iv x0.aa.an, iv x0.aa.ax, aC, aD, aH] 28) :: H ∧ aK st' [(2, iv x2), (4, .pointer (some ⟨NS, 0, none⟩)), (7, .pointer (some ⟨VD, 0, none⟩)), (17, .pointer (some ⟨aDb, 0, none⟩)), (18, .pointer (some ⟨VO, 0, none⟩)), (86, .bool ad8)])  ?_ ?_
 rotate_right
 ·intro IL hM aRD
  refine At.rg gd ?_
  refine lN [_, _, _, _, _, _] 0 6 aU z1 ?_
  refine lN [_, _, _, _, _, _] 0 6 aU z0 ?_
  obtain ⟨D5, aLy, hM⟩ := ao hM
  refine At.cv aBM (aB1 oW.1 N3.1 aDt aDu aDv aRN aRO aRP aLy) ?_
  rintro _ _ _ ⟨rfl, rfl, rfl⟩
  refine vs 2 ?_
  refine bA hM (λ VW hM => ?_) (λ VW hM => ?_)
  ·refine At.kn 82 VW ?_
   refine vs 4 ?_
   refine er ?_
   exact At.drop (sk (sk (sk (so sr)))) (aRD _ (af hM).symm _ _ _ ⟨rfl, rfl, aA.sub ⟨rfl, rfl, rfl, rfl, rfl, rfl, trivial⟩⟩)
  refine At.kn 82 VW ?_
  refine vs 4 ?_
  refine er ?_
  exact At.drop (sk (sk (sk (so sr)))) (aRD _ (af hM).symm _ _ _ ⟨rfl, rfl, aA.sub ⟨rfl, rfl, rfl, rfl, rfl, rfl, trivial⟩⟩)
 rintro ad8 aVw aVk aV9 ⟨rfl, rfl, aTn⟩ hM
 refine At.sub aTn ?_
 refine sc hM (λ Nm hM => ?_) (λ Nm hM => ?_)
 ·refine sg aL ?_
  refine vs 1 ?_
  refine er ?_
  obtain rfl := af hM
  exact At.wo Tryz.func4 (by kernel_rfl) (.tmp rfl .nil) (so (so (so (so sr)))) hk ⟨(((((VU.trans DY).trans nS).trans FG).trans rQ).trans Wd), rfl, rfl⟩
 refine sp ?_
 refine sg gd ?_
 refine lN [_, _, _, _, _, _] 0 6 aU z3 ?_
 refine vs 1 ?_
 refine lN [_, _] 0 2 eJ z2 ?_
 obtain ⟨tO, aat, hM⟩ := ao hM
 refine At.cv afe (afB x0 x2 x3 hG ay aB aF aat) ?_
 rintro _ aSI _ ⟨IP, rfl, aSw, aSx, aSy, aBS, aBT, aBU, rfl⟩
 replace ay := ay.mono IP
 replace aB := aB.mono IP
 replace aF := aF.mono IP
 replace hG := hG.mono IP
 refine vs 3 ?_
 refine At.s rfl rfl (Ox.bp (cs' := #[_, _, _, _, _, _]) rfl rfl rfl aU rfl (ak rfl (ak rfl (ak rfl (ak aBS.one (ak aBT.one (ak aBU.one aW)))))) (.there .here) rfl rfl rfl (.refl _) ?_)
 refine vs 1 ?_
 refine nx gd ?_
 refine lN [_, _, _, _, _, _] 0 6 aU z3 ?_
 refine vs 1 ?_
 refine lN [_, _] 0 2 eJ z2 ?_
 obtain ⟨n3, as0, hM⟩ := ao hM
 refine At.cv aDm (aDL x0 x2 x3 ay aB aF as0) ?_
 rintro _ aCd _ ⟨Fx, rfl, aVe, aVf, aVg, aRQ, aRR, aRS, rfl⟩
 replace ay := ay.mono Fx
 replace aB := aB.mono Fx
 replace aF := aF.mono Fx
 replace hG := hG.mono Fx
 replace aBS := aBS.mono Fx
 replace aBT := aBT.mono Fx
 replace aBU := aBU.mono Fx
 refine vs 3 ?_
 refine At.s rfl rfl (Ox.bp (cs' := #[_, _, _, _, _, _]) rfl rfl rfl aU rfl (ak rfl (ak rfl (ak rfl (ak aRQ.one (ak aRR.one (ak aRS.one aW)))))) .here rfl rfl rfl (.refl _) ?_)
 refine vs 1 ?_
 refine es ?_
 refine sq ?_
 refine At.gR hM (λ (II : Bool) R' H' st' => aCd = R' ∧ H' = (VO, .cells #[iv n3.1.aE, iv n3.1.aa.an, iv n3.1.aa.ax, aVe, aVf, aVg] 28) :: (aDb, .cells #[iv tO.1.aE, iv tO.1.aa.an, iv tO.1.aa.ax, aSw, aSx, aSy] 28) :: (NS, .cells #[iv x0.aE, iv x0.aa.an, iv x0.aa.ax, aC, aD, aH] 28) :: H ∧ aK st' [(2, iv x2), (4, .pointer (some ⟨NS, 0, none⟩)), (17, .pointer (some ⟨aDb, 0, none⟩)), (18, .pointer (some ⟨VO, 0, none⟩)), (109, .bool II)])  ?_ ?_
 rotate_right
 ·intro D6 hM aem
  refine At.rg gd ?_
  refine lN [_, _, _, _, _, _] 0 6 aU z1 ?_
  refine lN [_, _, _, _, _, _] 0 6 aU z0 ?_
  obtain ⟨NO, aLB, hM⟩ := ao hM
  refine At.cv aBM (aB1 tO.1 n3.1 aBS aBT aBU aRQ aRR aRS aLB) ?_
  rintro _ _ _ ⟨rfl, rfl, rfl⟩
  refine vs 2 ?_
  refine bA hM (λ aCx hM => ?_) (λ aCx hM => ?_)
  ·refine At.kn 105 aCx ?_
   refine vs 4 ?_
   refine er ?_
   exact At.drop (sk (sk (so sr))) (aem _ (af hM).symm _ _ _ ⟨rfl, rfl, aA.sub ⟨rfl, rfl, rfl, rfl, rfl, trivial⟩⟩)
  refine At.kn 105 aCx ?_
  refine vs 4 ?_
  refine er ?_
  exact At.drop (sk (sk (so sr))) (aem _ (af hM).symm _ _ _ ⟨rfl, rfl, aA.sub ⟨rfl, rfl, rfl, rfl, rfl, trivial⟩⟩)
 rintro II aSF aSD aU4 ⟨rfl, rfl, aLn⟩ hM
 refine At.sub aLn ?_
 refine sc hM (λ aey hM => ?_) (λ aey hM => ?_)
 ·refine sg aL ?_
  refine vs 1 ?_
  refine er ?_
  obtain rfl := af hM
  exact At.wo Tryz.func4 (by kernel_rfl) (.tmp rfl .nil) (so (so (so sr))) hk ⟨(((((((VU.trans DY).trans nS).trans FG).trans rQ).trans Wd).trans IP).trans Fx), rfl, rfl⟩
 refine sp ?_
 refine sg eC ?_
 refine lN [_, _, _, _, _, _] 0 6 aU z2 ?_
 refine vs 1 ?_
 obtain ⟨rS, aau, hM⟩ := ao hM
 refine At.cv Wa (Wk x0 x2 hG ay aB aF aau) ?_
 rintro _ aRu _ ⟨Iw, rfl, aWq, aWr, aWs, aDw, aDx, aDy, rfl⟩
 replace ay := ay.mono Iw
 replace aB := aB.mono Iw
 replace aF := aF.mono Iw
 replace hG := hG.mono Iw
 refine vs 3 ?_
 refine At.s rfl rfl (Ox.bp (cs' := #[_, _, _, _, _, _]) rfl rfl rfl aU rfl (ak rfl (ak rfl (ak rfl (ak aDw.one (ak aDx.one (ak aDy.one aW)))))) (.there .here) rfl rfl rfl (.refl _) ?_)
 refine vs 1 ?_
 refine nx eC ?_
 refine lN [_, _, _, _, _, _] 0 6 aU z2 ?_
 refine vs 1 ?_
 obtain ⟨Eh, aeG, hM⟩ := ao hM
 refine At.cv aDn (aDM x0 x2 ay aB aF aeG) ?_
 rintro _ aVN _ ⟨ak6, rfl, aWt, aWu, aWv, aRT, aRU, aRV, rfl⟩
 replace hG := hG.mono ak6
 replace aDw := aDw.mono ak6
 replace aDx := aDx.mono ak6
 replace aDy := aDy.mono ak6
 refine vs 3 ?_
 refine At.s rfl rfl (Ox.bp (cs' := #[_, _, _, _, _, _]) rfl rfl rfl aU rfl (ak rfl (ak rfl (ak rfl (ak aRT.one (ak aRU.one (ak aRV.one aW)))))) .here rfl rfl rfl (.refl _) ?_)
 refine vs 1 ?_
 refine nx oV ?_
 refine lN [_, _, _, _, _, _] 0 6 aU z1 ?_
 refine lN [_, _, _, _, _, _] 0 6 aU z0 ?_
 obtain ⟨NP, aCy, hM⟩ := ao hM
 refine At.cv aBM (aB1 rS.1 Eh.1 aDw aDx aDy aRT aRU aRV aCy) ?_
 rintro _ _ _ ⟨rfl, rfl, rfl⟩
 refine vs 1 ?_
 refine bA hM (λ arT hM => ?_) (λ arT hM => ?_)
 ·refine At.kn 125 arT ?_
  refine vs 5 ?_
  refine bA hM (λ RY hM => ?_) (λ RY hM => ?_)
  ·refine At.kn 130 RY ?_
   obtain ⟨rN, S4, hM⟩ := ao hM
   refine At.cv V9 (Wj  hG hK S4) ?_
   rintro _ aH9 _ ⟨Eb, rfl, rfl⟩
   refine vs 2 ?_
   refine er ?_
   obtain rfl := af hM
   exact At.wo Tryz.func4 (by kernel_rfl) (.tmp rfl .nil) (so (so (so sr))) hk ⟨((((((((((VU.trans DY).trans nS).trans FG).trans rQ).trans Wd).trans IP).trans Fx).trans Iw).trans ak6).trans Eb), rfl, rfl⟩
  refine At.kn 130 RY ?_
  refine vs 3 ?_
  refine er ?_
  obtain rfl := af hM
  exact At.wo Tryz.func4 (by kernel_rfl) (.tmp rfl .nil) (so (so (so sr))) hk ⟨(((((((((VU.trans DY).trans nS).trans FG).trans rQ).trans Wd).trans IP).trans Fx).trans Iw).trans ak6), rfl, rfl⟩
 refine At.kn 125 arT ?_
 refine vs 8 ?_
 refine er ?_
 obtain rfl := af hM
 exact At.wo Tryz.func4 (by kernel_rfl) (.tmp rfl .nil) (so (so (so sr))) hk ⟨(((((((((VU.trans DY).trans nS).trans FG).trans rQ).trans Wd).trans IP).trans Fx).trans Iw).trans ak6), rfl, rfl⟩
end
end Go.Proofs.YtabamagholjdcaaGreatDoor
