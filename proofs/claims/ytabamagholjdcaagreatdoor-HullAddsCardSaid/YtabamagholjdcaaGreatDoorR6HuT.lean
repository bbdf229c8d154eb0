/- Walks, part 6: each function computes its model. -/
import Derived.Test.YtabamagholjdcaaGreatDoorQAHuP8
import Derived.Test.YtabamagholjdcaaGreatDoorQALgD
namespace Go.Proofs.YtabamagholjdcaaGreatDoor
open Go.Lg Go.Proofs
set_option maxRecDepth 100000
set_option maxHeartbeats 4000000
section
variable {B : Base} {main : Bool} {ag : Jd Tryz.prog B main} {R : aI} {H : au}
theorem aUM {PW : Value → World → Prop} (x0 : aq) (x1 : (List Int)) (x2 : Int) (x3 : Int) {aC aD aH v1 : Value} (hG : fM R) (hK : y6 (Hv Tryz.prog B PW)) (ay : aj bm 5 R aC x0.az) (aB : aj CZ 1 R aD x0.Out) (aF : aj bh 2 R aH x0.aO) (h1 : bC (CI .u16) 1 R H v1 x1) {r : Bool} (hM : m6 x0 x1 x2 x3 = some r) : Jo Tryz.prog B PW 6 #[.agg #[iv x0.aE, iv x0.aa.an, iv x0.aa.ax, aC, aD, aH], v1, .int .u8 x2, .int .u8 x3] R H (λ v R' H' => aN R R' ∧ H = H' ∧ v = .bool r) := by
 unfold m6 at hM
 refine Jo.aX (args := [.agg #[iv x0.aE, iv x0.aa.an, iv x0.aa.ax, aC, aD, aH], v1, .int .u8 x2, .int .u8 x3]) Tryz.func6 rfl (n := 159) rfl rfl λ hk => ?_
 refine sg aQ ?_
 refine bx λ Nf => ?_
 refine vs 1 ?_
 refine es ?_
 refine sg aS ?_
 refine lN [_, _, _, _, _, _] 0 6 aU z0 ?_
 obtain ⟨yK, aa6, hM⟩ := ao hM
 refine At.cv aCk (aCO x0 ay aB aF aa6) ?_
 rintro _ _ _ ⟨rfl, rfl, rfl⟩
 refine vs 1 ?_
 refine er ?_
 refine sc hM (λ aeA hM => ?_) (λ aeA hM => ?_)
 ·refine sg aQ ?_
  obtain ⟨Ww, aT3, hM⟩ := ao hM
  refine At.cv V9 (Wj  hG hK aT3) ?_
  rintro _ aV1 _ ⟨aTb, rfl, rfl⟩
  refine vs 1 ?_
  refine er ?_
  obtain rfl := af hM
  exact At.wo Tryz.func6 (by kernel_rfl) (.tmp rfl .nil) (so sr) hk ⟨aTb, rfl, rfl⟩
 refine sp ?_
 refine sg dy ?_
 refine vs 1 ?_
 obtain ⟨rO, KV, hM⟩ := ao hM
 refine At.cv aCl (aCP x1 0 (h1.sub (su (so sr))) KV) ?_
 rintro _ _ _ ⟨rfl, rfl, rfl⟩
 obtain ⟨ij, CB, hM⟩ := ao hM
 refine At.s rfl rfl (Ox.rem rfl rfl rfl CB rfl (.put rfl) ?_)
 refine At.s rfl rfl (Ox.build (cells := #[_, _]) rfl Wr rfl (bf rfl rfl rfl rfl aY) rfl (.put rfl) ?_)
 refine At.s rfl rfl (Ox.alloc (cs := #[iv 0, .slice none 0 0]) rfl afP rfl λ Ni _ _ => ⟨_, (.put rfl), ?_⟩)
 refine At.s rfl rfl (Ox.bp (cs' := #[_, _]) rfl rfl rfl rP rfl (ak rfl (ak rfl aW)) .here rfl rfl rfl (.refl _) ?_)
 refine nx aS ?_
 refine vs 1 ?_
 refine ld 0 bg z0 ?_
 refine vs 1 ?_
 refine es ?_
 refine sg aL ?_
 refine vs 1 ?_
 refine er ?_
 refine At.block ?_
 refine At.c8 hM (λ (rM : (Int × Int × (List Int))) R' H' st' => R = R' ∧ ∃ aCb aCc, aZ CZ 1 3 R' aCb rM.2.2 aCc ∧ H' = aCc ++ ((Ni, .cells #[iv ij, aCb] 66) :: (Nf, .cells #[iv x0.aE, iv x0.aa.an, iv x0.aa.ax, aC, aD, aH] 28) :: H) ∧ aK st' [(1, v1), (2, .int .u8 x2), (3, .int .u8 x3), (4, .pointer (some ⟨Nf, 0, none⟩)), (9, .pointer (some ⟨Ni, 0, none⟩)), (10, iv rM.1), (11, iv rM.2.1)]) (λ (vR : (Int × (List Int))) R' H' st' => R = R' ∧ ∃ aD2 aFK, aZ CZ 1 3 R' aD2 vR.2 aFK ∧ H' = aFK ++ ((Ni, .cells #[iv ij, aD2] 66) :: (Nf, .cells #[iv x0.aE, iv x0.aa.an, iv x0.aa.ax, aC, aD, aH] 28) :: H) ∧ aK st' [(2, .int .u8 x2), (3, .int .u8 x3), (4, .pointer (some ⟨Nf, 0, none⟩)), (9, .pointer (some ⟨Ni, 0, none⟩)), (10, iv vR.1)]) 0 rfl ⟨rfl, .slice none 0 0, [], aZ.nil, rfl, aA.sub ⟨rfl, rfl, rfl, rfl, rfl, rfl, rfl, trivial⟩⟩ ?_ ?_
 rotate_right
 ·rintro rM R94 H94 aWi ⟨rfl, aCb, aCc, aRM, rfl, aTw⟩ lR hM aSR aS1
  refine At.sub aTw ?_
  refine sq ?_
  refine sg bT ?_
  refine vs 2 ?_
  refine ld 3 cK (List.mem_append_right _ z1) ?_
  refine ls ay Tryz.underlying24 ?_
  refine vs 1 ?_
  refine er ?_
  refine sc hM (λ aTA hM => ?_) (λ aTA hM => ?_)
  ·refine sp ?_
   refine sq ?_
   refine At.block ?_
   refine sq ?_
   refine At.draw (n := 11) (is := [0, 1, 2, 3, 4, 5, 6, 7, 8, 9, 10]) (many (aCc ++ ((Ni, .cells #[iv ij, aCb] 66) :: (Nf, .cells #[iv x0.aE, iv x0.aa.an, iv x0.aa.ax, aC, aD, aH] 28) :: H)) [(8, (Ni, .cells #[iv ij, aCb] 66) :: (Nf, .cells #[iv x0.aE, iv x0.aa.an, iv x0.aa.ax, aC, aD, aH] 28) :: H), (10, (Nf, .cells #[iv x0.aE, iv x0.aa.an, iv x0.aa.ax, aC, aD, aH] 28) :: H)]) mixed rfl (by decide +kernel) rfl rfl ?_
   refine Any.vs 1 [0] rfl ?_
   refine ts 1 [8, 9, 10] rfl (cq rfl (cq rfl (dm (su (aP (sk (so sr))))))) (su (aP (sk (so sr)))) (λ R' H' hR hS => Ox.bV rfl rfl bL ((aT.box (hS _ z0)).one (j := 1) rfl) rfl (.one rfl) ⟨rfl, rfl, rfl⟩) ?_
   refine Any.vs 3 [2, 3, 4] rfl ?_
   obtain ⟨j9, aas, hM⟩ := ao hM
   refine Any.cv 5 aCl (aCP x1 (i64 (1 + rM.2.1)) (h1.sub (su (aP (so (so sr))))) aas) ?_
   rintro _ _ _ ⟨rfl, rfl, rfl⟩
   refine ⟨rr, (bO rfl pp), ?_⟩
   obtain ⟨Ik, aLA, hM⟩ := ao hM
   refine ts 6 [7, 8, 9, 10] rfl (cq rfl (cq rfl (dm (su (aP (so (so sr))))))) (su (aP (so (so sr)))) (λ R' H' hR hS => Ox.rem rfl rfl rfl aLA rfl (.one rfl) ⟨rfl, rfl, rfl⟩) ?_
   refine Any.on 7 rfl rfl (aR.to (Ox.buildSlice (cells := #[_]) rfl ck rfl (by decide) cS (bf rfl rfl rfl rfl aY) rfl λ aST _ _ => ⟨_, (.put rfl), ⟨rr, (bO rfl (su (so sr))), ?_⟩⟩))
   obtain ⟨n3, as0, hM⟩ := ao hM
   refine Any.on 8 rfl rfl (aR.to (Ox.append (K := CZ) (λ X => (aST, _) :: X ++ ((Ni, _) :: (Nf, _) :: H)) rfl rfl rfl cR Tryz.underlying25 (by simp) (.cons .id) aRM (cE.lit z0 (aG.le (aG.cons (x := Ik) rfl rfl aG.nil) rfl) rfl) as0 rfl λ aVd aSE aLl => ⟨_, (.put rfl), ⟨rr, (bO rfl (su (so (aP sr)))), ?_⟩⟩))
   refine Any.vs 1 [9] rfl ?_
   refine Any.on 10 rfl rfl (aR.to (Ox.cM (cs' := #[_, _]) rfl rfl rfl bL aLl.one (.there (.skip .here)) rfl rfl rfl (.refl _) ⟨rr, (bO rfl (su (so (aP (so sr))))), ?_⟩))
   refine Any.done ?_
   refine At.dw BH mixed ?_
   refine Any.vs 2 [0, 1] rfl ?_
   refine Any.tk 2 rfl pp (λ R' H' hR hS => Ox.bV rfl rfl cK ((aT.box (hS _ (.tail _ (List.mem_append_right _ z1)))).one (j := 3) rfl) rfl (.one rfl) ⟨rfl, rfl, rfl⟩) ?_
   refine Any.vs 1 [3] rfl ?_
   obtain ⟨D6, aeD, hM⟩ := ao hM
   obtain ⟨BM, aeE, hM⟩ := ao hM
   obtain ⟨aV2, aV6, _, ⟨aWo, aV5, rfl⟩, aTg, aTk⟩ := ay.elem gN aeD
   refine Any.tk 4 rfl pp (λ R' H' hR hS => Ox.bq rfl rfl rfl aTk rfl (.one rfl) ⟨rfl, rfl, rfl⟩) ?_
   refine Any.vs 1 [5] rfl ?_
   refine Any.tk 6 rfl pp (λ R' H' hR hS => Ox.bV rfl rfl bg ((aTg.up hR).one (j := 1) rfl) rfl (.one rfl) ⟨rfl, rfl, rfl⟩) ?_
   refine Any.vs 1 [7] rfl ?_
   refine Any.tk 8 rfl pp (λ R' H' hR hS => Ox.bV rfl rfl bL ((aT.box (hS _ (.tail _ (List.mem_append_right _ z0)))).one (j := 1) rfl) rfl (.one rfl) ⟨rfl, rfl, rfl⟩) ?_
   refine Any.vs 1 [9] rfl ?_
   obtain ⟨aV3, aV7, _, rfl, aTh, aTl⟩ := (aLl.rd (λ _ h => (.tail _ (List.mem_append_left _ h)))).elem cL aeE
   refine Any.tk 10 rfl pp (λ R' H' hR hS => Ox.bq rfl rfl rfl aTl rfl (.one rfl) ⟨rfl, rfl, rfl⟩) ?_
   refine Any.tk 11 rfl pp (λ R' H' hR hS => Ox.bV rfl rfl bg (((aTh.le hR).sub (λ p h => hS p (pp p h))).one (j := 0) rfl) rfl (.one rfl) ⟨rfl, rfl, rfl⟩) ?_
   refine Any.vs 3 [12, 13, 14] rfl ?_
   refine Any.done ?_
   refine At.inBlock ?_
   refine At.rg aS ?_
   refine vs 3 ?_
   refine er ?_
   exact At.drop (so sr) (aSR _ (af hM).symm _ _ _ ⟨rfl, aVd, aSE, aLl, rfl, aA.sub ⟨rfl, rfl, rfl, rfl, rfl, rfl, rfl, trivial⟩⟩)
  exact At.exit rfl (aS1 _ (af hM).symm _ _ _ ⟨rfl, aCb, aCc, aRM, rfl, aA.sub ⟨rfl, rfl, rfl, rfl, rfl, trivial⟩⟩)
 rintro vR aVF aVt aWj ⟨rfl, aD2, aFK, aLj, rfl, aTx⟩ hM
 refine At.sub aTx ?_
 refine sg dY ?_
 refine vs 1 ?_
 refine At.s rfl rfl (Ox.wm rfl rfl Tryz.underlying5 Tryz.underlying3 rfl (.put rfl) ?_)
 refine vs 1 ?_
 refine ld 3 cK (List.mem_append_right _ z1) ?_
 refine ls ay Tryz.underlying24 ?_
 obtain ⟨wq, aeF, hM⟩ := ao hM
 refine At.s rfl rfl (Ox.rem rfl rfl rfl aeF rfl (.put rfl) ?_)
 refine vs 1 ?_
 refine es ?_
 refine At.dw gd mixed ?_
 refine Any.vs 2 [0, 1] rfl ?_
 obtain ⟨NO, aLB, hM⟩ := ao hM
 refine Any.tk 2 rfl pp (λ R' H' hR hS => Ox.shl rfl rfl rfl aLB rfl (.one rfl) ⟨rfl, rfl, rfl⟩) ?_
 obtain ⟨ae3, aTJ, hM⟩ := ao hM
 refine Any.tk 3 rfl pp (λ R' H' hR hS => Ox.bits rfl rfl rfl aTJ rfl (.one rfl) ⟨rfl, rfl, rfl⟩) ?_
 refine Any.vs 1 [4] rfl ?_
 refine tl 5 3 cK (List.mem_append_right _ z1) ?_
 refine Any.tk 6 rfl pp (λ R' H' hR hS => Ox.tP (K := bm) (k := 5) (xs := x0.az) rfl rfl (ay.mono hR) Tryz.underlying24 rfl (.one rfl) ⟨rfl, rfl, rfl⟩) ?_
 obtain ⟨Bc, aLC, hM⟩ := ao hM
 refine Any.cv 7 aCm (aCQ ae3 (x0.az.length : Int)  aLC) ?_
 rintro aVh aSJ _ ⟨Fy, rfl, _, VK, rfl⟩
 replace ay := ay.mono Fy
 replace aB := aB.mono Fy
 replace aF := aF.mono Fy
 replace hG := hG.mono Fy
 replace aLj := aLj.mono Fy
 refine ⟨Fy, ka, ?_⟩
 refine Any.vs 1 [8] rfl ?_
 refine Any.done ?_
 refine sg eC ?_
 refine lN [_, _, _, _, _, _] 0 6 aU (List.mem_append_right _ z1) ?_
 refine lN [_, _] 0 2 rP (List.mem_append_right _ z0) ?_
 refine At.dB (H2 := (Ni, _) :: (Nf, _) :: H) (λ X => X ++ ((Ni, _) :: (Nf, _) :: H)) .id rfl aLj (λ aVI VT Ec => ?_)
 replace ay := ay.mono VT
 replace aB := aB.mono VT
 replace aF := aF.mono VT
 replace hG := hG.mono VT
 replace VK := VK.mono VT
 obtain ⟨yP, aLD, hM⟩ := ao hM
 refine At.cv VP (VZ x0 (⟨ij, vR.2⟩ : cB) [] hG ay aB aF Ec aj.nil.rd aLD) ?_
 rintro _ aSK _ ⟨IA, rfl, rfl⟩
 replace ay := ay.mono IA
 replace aB := aB.mono IA
 replace aF := aF.mono IA
 replace hG := hG.mono IA
 replace Ec := Ec.mono IA
 replace VK := VK.mono IA
 refine vs 5 ?_
 refine nx gd ?_
 refine lN [_, _, _, _, _, _] 0 6 aU z1 ?_
 refine lN [_, _] 0 2 rP z0 ?_
 refine vs 1 ?_
 obtain ⟨rS, aau, hM⟩ := ao hM
 refine At.cv VP (VZ x0 (⟨ij, vR.2⟩ : cB) Bc hG ay aB aF Ec VK.rd aau) ?_
 rintro _ aRu _ ⟨Iw, rfl, rfl⟩
 replace ay := ay.mono Iw
 replace aB := aB.mono Iw
 replace aF := aF.mono Iw
 replace hG := hG.mono Iw
 replace Ec := Ec.mono Iw
 replace VK := VK.mono Iw
 refine vs 5 ?_
 refine es ?_
 obtain ⟨NP, aCy, hM⟩ := ao hM
 obtain ⟨ads, aLE, hM⟩ := ao hM
 obtain ⟨rN, S4, hM⟩ := ao hM
 obtain ⟨dh, IB, hM⟩ := ao hM
 refine At.cut (λ R' H' st' => aN aRu R' ∧ H' = (Ni, .cells #[iv ij, aD2] 66) :: (Nf, .cells #[iv x0.aE, iv x0.aa.an, iv x0.aa.ax, aC, aD, aH] 28) :: H ∧ aK st' [(4, .pointer (some ⟨Nf, 0, none⟩)), (9, .pointer (some ⟨Ni, 0, none⟩)), (10, iv vR.1), (12, iv wq), (14, iv yP.1), (15, iv yP.2), (16, iv rS.1), (17, iv rS.2), (18, iv dh.1), (19, iv dh.2)]) ?_ ?_
 ·rintro aVH aVv aWl ⟨VS, rfl, aTz⟩
  refine At.sub aTz ?_
  replace ay := ay.mono VS
  replace aB := aB.mono VS
  replace aF := aF.mono VS
  replace hG := hG.mono VS
  replace Ec := Ec.mono VS
  refine sq ?_
  refine At.dw oV mixed ?_
  refine tN 0 [_, _, _, _, _, _] 0 6 aU z1 ?_
  refine tN 1 [_, _] 0 2 rP z0 ?_
  refine Any.vs 1 [2] rfl ?_
  refine tl 3 3 cK z1 ?_
  refine Any.tk 4 rfl pp (λ R' H' hR hS => Ox.tP (K := bm) (k := 5) (xs := x0.az) rfl rfl (ay.mono hR) Tryz.underlying24 rfl (.one rfl) ⟨rfl, rfl, rfl⟩) ?_
  obtain ⟨yJ, aeH, hM⟩ := ao hM
  refine Any.cv 5 aff (afC (x0.az.length : Int)  aeH) ?_
  rintro aWw aVP _ ⟨VG, rfl, _, aTN, rfl⟩
  replace ay := ay.mono VG
  replace aB := aB.mono VG
  replace aF := aF.mono VG
  replace hG := hG.mono VG
  replace Ec := Ec.mono VG
  refine ⟨VG, ka, ?_⟩
  obtain ⟨yQ, aeI, hM⟩ := ao hM
  refine Any.cv 6 VP (VZ x0 (⟨ij, vR.2⟩ : cB) yJ hG ay aB aF Ec aTN.rd aeI) ?_
  rintro _ aVQ _ ⟨We, rfl, rfl⟩
  replace ay := ay.mono We
  replace hG := hG.mono We
  replace Ec := Ec.mono We
  refine ⟨We, ka, ?_⟩
  refine Any.vs 5 [7, 8, 9, 10, 11] rfl ?_
  refine Any.done ?_
  refine sq ?_
  refine At.dw aDX mixed ?_
  refine Any.vs 3 [0, 1, 2] rfl ?_
  refine bA hM (λ aal hM => ?_) (λ aal hM => ?_)
  ·refine Any.known (t := 115) rfl aal ?_
   refine Any.vs 4 [3, 4, 5, 6] rfl ?_
   refine bA hM (λ aLq hM => ?_) (λ aLq hM => ?_)
   ·refine Any.known (t := 119) rfl aLq ?_
    refine Any.vs 4 [7, 8, 9, 10] rfl ?_
    refine bA hM (λ F7 hM => ?_) (λ F7 hM => ?_)
    ·refine Any.known (t := 123) rfl F7 ?_
     refine Any.vs 4 [11, 12, 13, 14] rfl ?_
     refine bA hM (λ aam hM => ?_) (λ aam hM => ?_)
     ·refine Any.known (t := 127) rfl aam ?_
      refine Any.vs 5 [15, 16, 17, 18, 19] rfl ?_
      refine bA hM (λ aLr hM => ?_) (λ aLr hM => ?_)
      ·refine Any.known (t := 132) rfl aLr ?_
       refine Any.vs 4 [20, 21, 22, 23] rfl ?_
       refine tl 24 3 cK z1 ?_
       refine Any.vs 1 [25] rfl ?_
       obtain ⟨afM, aLF, hM⟩ := ao hM
       obtain ⟨IS, aav, hM⟩ := ao hM
       refine bA hM (λ VJ hM => ?_) (λ VJ hM => ?_)
       ·refine bA hM (λ Cw hM => ?_) (λ Cw hM => ?_)
        ·obtain ⟨yR, aeJ, hM⟩ := ao hM
         obtain ⟨aRz, aSn, _, ⟨aSC, aRW, rfl⟩, alr, aCr⟩ := ay.elem gN aLF
         refine Any.tk 26 rfl pp (λ R' H' hR hS => Ox.bq rfl rfl rfl aCr rfl (.one rfl) ⟨rfl, rfl, rfl⟩) ?_
         refine Any.vs 1 [27] rfl ?_
         refine Any.tk 28 rfl pp (λ R' H' hR hS => Ox.bV rfl rfl bg ((alr.up hR).one (j := 1) rfl) rfl (.one rfl) ⟨rfl, rfl, rfl⟩) ?_
         refine Any.vs 1 [29] rfl ?_
         refine tl 30 1 bL z0 ?_
         refine Any.vs 1 [31] rfl ?_
         obtain ⟨aRA, aSo, _, rfl, als, aCs⟩ := Ec.elem cL aav
         refine Any.tk 32 rfl pp (λ R' H' hR hS => Ox.bq rfl rfl rfl aCs rfl (.one rfl) ⟨rfl, rfl, rfl⟩) ?_
         refine Any.tk 33 rfl pp (λ R' H' hR hS => Ox.bV rfl rfl bg ((als.up hR).one (j := 0) rfl) rfl (.one rfl) ⟨rfl, rfl, rfl⟩) ?_
         refine Any.vs 4 [34, 35, 36, 37] rfl ?_
         refine Any.known (t := 150) rfl VJ ?_
         refine Any.vs 2 [38, 39] rfl ?_
         refine tl 40 0 bg z0 ?_
         refine Any.vs 3 [41, 42, 43] rfl ?_
         refine Any.known (t := 156) rfl Cw ?_
         refine Any.cv 44 V9 (Wj  hG hK aeJ) ?_
         rintro _ aVR _ ⟨aDp, rfl, rfl⟩
         replace alr := alr.up (H := []) aDp
         replace als := als.up (H := []) aDp
         refine ⟨aDp, ka, ?_⟩
         refine Any.vs 2 [45, 46] rfl ?_
         refine Any.done ?_
         obtain rfl := af hM
         exact At.wo Tryz.func6 (by kernel_rfl) (.tmp rfl .nil) (so (so sr)) hk ⟨(((((((Fy.trans VT).trans IA).trans Iw).trans VS).trans VG).trans We).trans aDp), rfl, rfl⟩
        obtain ⟨aRz, aSn, _, ⟨aSC, aRW, rfl⟩, alr, aCr⟩ := ay.elem gN aLF
        refine Any.tk 26 rfl pp (λ R' H' hR hS => Ox.bq rfl rfl rfl aCr rfl (.one rfl) ⟨rfl, rfl, rfl⟩) ?_
        refine Any.vs 1 [27] rfl ?_
        refine Any.tk 28 rfl pp (λ R' H' hR hS => Ox.bV rfl rfl bg ((alr.up hR).one (j := 1) rfl) rfl (.one rfl) ⟨rfl, rfl, rfl⟩) ?_
        refine Any.vs 1 [29] rfl ?_
        refine tl 30 1 bL z0 ?_
        refine Any.vs 1 [31] rfl ?_
        obtain ⟨aRA, aSo, _, rfl, als, aCs⟩ := Ec.elem cL aav
        refine Any.tk 32 rfl pp (λ R' H' hR hS => Ox.bq rfl rfl rfl aCs rfl (.one rfl) ⟨rfl, rfl, rfl⟩) ?_
        refine Any.tk 33 rfl pp (λ R' H' hR hS => Ox.bV rfl rfl bg ((als.up hR).one (j := 0) rfl) rfl (.one rfl) ⟨rfl, rfl, rfl⟩) ?_
        refine Any.vs 4 [34, 35, 36, 37] rfl ?_
        refine Any.known (t := 150) rfl VJ ?_
        refine Any.vs 2 [38, 39] rfl ?_
        refine tl 40 0 bg z0 ?_
        refine Any.vs 3 [41, 42, 43] rfl ?_
        refine Any.known (t := 156) rfl Cw ?_
        refine Any.vs 3 [44, 45, 46] rfl ?_
        refine Any.done ?_
        obtain rfl := af hM
        exact At.wo Tryz.func6 (by kernel_rfl) (.tmp rfl .nil) (so (so sr)) hk ⟨((((((Fy.trans VT).trans IA).trans Iw).trans VS).trans VG).trans We), rfl, rfl⟩
       obtain ⟨aRz, aSn, _, ⟨aSC, aRW, rfl⟩, alr, aCr⟩ := ay.elem gN aLF
       refine Any.tk 26 rfl pp (λ R' H' hR hS => Ox.bq rfl rfl rfl aCr rfl (.one rfl) ⟨rfl, rfl, rfl⟩) ?_
       refine Any.vs 1 [27] rfl ?_
       refine Any.tk 28 rfl pp (λ R' H' hR hS => Ox.bV rfl rfl bg ((alr.up hR).one (j := 1) rfl) rfl (.one rfl) ⟨rfl, rfl, rfl⟩) ?_
       refine Any.vs 1 [29] rfl ?_
       refine tl 30 1 bL z0 ?_
       refine Any.vs 1 [31] rfl ?_
       obtain ⟨aRA, aSo, _, rfl, als, aCs⟩ := Ec.elem cL aav
       refine Any.tk 32 rfl pp (λ R' H' hR hS => Ox.bq rfl rfl rfl aCs rfl (.one rfl) ⟨rfl, rfl, rfl⟩) ?_
       refine Any.tk 33 rfl pp (λ R' H' hR hS => Ox.bV rfl rfl bg ((als.up hR).one (j := 0) rfl) rfl (.one rfl) ⟨rfl, rfl, rfl⟩) ?_
       refine Any.vs 4 [34, 35, 36, 37] rfl ?_
       refine Any.known (t := 150) rfl VJ ?_
       refine Any.vs 9 [38, 39, 40, 41, 42, 43, 44, 45, 46] rfl ?_
       refine Any.done ?_
       obtain rfl := af hM
       exact At.wo Tryz.func6 (by kernel_rfl) (.tmp rfl .nil) (so (so sr)) hk ⟨((((((Fy.trans VT).trans IA).trans Iw).trans VS).trans VG).trans We), rfl, rfl⟩
      refine Any.known (t := 132) rfl aLr ?_
      refine Any.vs 27 [20, 21, 22, 23, 24, 25, 26, 27, 28, 29, 30, 31, 32, 33, 34, 35, 36, 37, 38, 39, 40, 41, 42, 43, 44, 45, 46] rfl ?_
      refine Any.done ?_
      obtain rfl := af hM
      exact At.wo Tryz.func6 (by kernel_rfl) (.tmp rfl .nil) (so (so sr)) hk ⟨((((((Fy.trans VT).trans IA).trans Iw).trans VS).trans VG).trans We), rfl, rfl⟩
     refine Any.known (t := 127) rfl aam ?_
     refine Any.vs 32 [15, 16, 17, 18, 19, 20, 21, 22, 23, 24, 25, 26, 27, 28, 29, 30, 31, 32, 33, 34, 35, 36, 37, 38, 39, 40, 41, 42, 43, 44, 45, 46] rfl ?_
     refine Any.done ?_
     obtain rfl := af hM
     exact At.wo Tryz.func6 (by kernel_rfl) (.tmp rfl .nil) (so (so sr)) hk ⟨((((((Fy.trans VT).trans IA).trans Iw).trans VS).trans VG).trans We), rfl, rfl⟩
    refine Any.known (t := 123) rfl F7 ?_
    refine Any.vs 36 [11, 12, 13, 14, 15, 16, 17, 18, 19, 20, 21, 22, 23, 24, 25, 26, 27, 28, 29, 30, 31, 32, 33, 34, 35, 36, 37, 38, 39, 40, 41, 42, 43, 44, 45, 46] rfl ?_
    refine Any.done ?_
    obtain rfl := af hM
    exact At.wo Tryz.func6 (by kernel_rfl) (.tmp rfl .nil) (so (so sr)) hk ⟨((((((Fy.trans VT).trans IA).trans Iw).trans VS).trans VG).trans We), rfl, rfl⟩
   refine Any.known (t := 119) rfl aLq ?_
   refine Any.vs 40 [7, 8, 9, 10, 11, 12, 13, 14, 15, 16, 17, 18, 19, 20, 21, 22, 23, 24, 25, 26, 27, 28, 29, 30, 31, 32, 33, 34, 35, 36, 37, 38, 39, 40, 41, 42, 43, 44, 45, 46] rfl ?_
   refine Any.done ?_
   obtain rfl := af hM
   exact At.wo Tryz.func6 (by kernel_rfl) (.tmp rfl .nil) (so (so sr)) hk ⟨((((((Fy.trans VT).trans IA).trans Iw).trans VS).trans VG).trans We), rfl, rfl⟩
  refine Any.known (t := 115) rfl aal ?_
  refine Any.vs 44 [3, 4, 5, 6, 7, 8, 9, 10, 11, 12, 13, 14, 15, 16, 17, 18, 19, 20, 21, 22, 23, 24, 25, 26, 27, 28, 29, 30, 31, 32, 33, 34, 35, 36, 37, 38, 39, 40, 41, 42, 43, 44, 45, 46] rfl ?_
  refine Any.done ?_
  obtain rfl := af hM
  exact At.wo Tryz.func6 (by kernel_rfl) (.tmp rfl .nil) (so (so sr)) hk ⟨((((((Fy.trans VT).trans IA).trans Iw).trans VS).trans VG).trans We), rfl, rfl⟩
 intro aK6
 refine At.dw BH mixed ?_
 refine tN 0 [_, _, _, _, _, _] 0 6 aU z1 ?_
 refine tN 1 [_, _] 0 2 rP z0 ?_
 refine Any.vs 2 [3, 5] rfl ?_
 refine tw 2 6 ?_ ?_
 ·refine  (aR.to (Ox.buildSlice (cells := #[]) rfl ck rfl (by decide) p7 aY rfl λ aSU _ _ => ⟨_, (.put rfl), ⟨rr, (ku (so sr)), ?_⟩⟩))
  refine tw 4 6 ?_ ?_
  ·refine  (aR.to (Ox.append (K := CZ) (λ X => X ++ ((Ni, _) :: (Nf, _) :: H)) rfl rfl rfl cR Tryz.underlying25 (by simp) .id (aZ.lit (aG.le aG.nil rfl) rfl) VK.arg aCy rfl λ aSz aRs aCv => ⟨_, (.put rfl), ⟨rr, (ku (aP sr)), ?_⟩⟩))
   refine Any.on 6 rfl rfl (aR.to (Ox.buildSlice (cells := #[_]) rfl ck rfl (by decide) cS (bf rfl rfl rfl rfl aY) rfl λ ahA _ _ => ⟨_, (.put rfl), ⟨rr, (ku (so (aP sr))), ?_⟩⟩))
   refine Any.on 7 rfl rfl (aR.to (Ox.append (K := CZ) (λ X => (ahA, _) :: X ++ ((Ni, _) :: (Nf, _) :: H)) rfl rfl rfl cR Tryz.underlying25 (by simp) (.cons .id) aCv (cE.lit z0 (aG.le (aG.cons (x := wq) rfl rfl aG.nil) rfl) rfl) aLE rfl λ aSA aRt aCw => ⟨_, (.put rfl), ⟨rr, (ku (so (aP sr))), ?_⟩⟩))
   refine Any.cv 8 aBN (aB2 ads (aCw.rd (λ _ h => (.tail _ (List.mem_append_left _ h)))) S4) ?_
   rintro aSB aH9 _ ⟨Eb, rfl, _, aCz, rfl⟩
   replace ay := ay.mono Eb
   replace aB := aB.mono Eb
   replace aF := aF.mono Eb
   replace hG := hG.mono Eb
   replace Ec := Ec.mono Eb
   refine ⟨Eb, (ku (so (aP sr))), ?_⟩
   refine Any.cv 9 VP (VZ x0 (⟨ij, vR.2⟩ : cB) rN hG ay aB aF Ec aCz.rd IB) ?_
   rintro _ DX _ ⟨Ej, rfl, rfl⟩
   refine ⟨Ej, (ku (so (aP sr))), ?_⟩
   refine Any.vs 5 [10, 11, 12, 13, 14] rfl ?_
   exact Any.done (At.drop (so (aP sr)) (aK6 _ _ _ ⟨(Eb.trans Ej), rfl, aA.sub ⟨rfl, rfl, rfl, rfl, rfl, rfl, rfl, rfl, rfl, rfl, trivial⟩⟩))
  refine  (aR.to (Ox.buildSlice (cells := #[_]) rfl ck rfl (by decide) cS (bf rfl rfl rfl rfl aY) rfl λ ahA _ _ => ⟨_, (.put rfl), ⟨rr, (ku (so (so sr))), ?_⟩⟩))
  refine Any.on 4 rfl rfl (aR.to (Ox.append (K := CZ) (λ X => (ahA, _) :: X ++ ((Ni, _) :: (Nf, _) :: H)) rfl rfl rfl cR Tryz.underlying25 (by simp) (.cons .id) (aZ.lit (aG.le aG.nil rfl) rfl) VK.arg aCy rfl λ aSz aRs aCv => ⟨_, (.put rfl), ⟨rr, (ku (so (aP sr))), ?_⟩⟩))
  refine Any.on 7 rfl rfl (aR.to (Ox.append (K := CZ) (λ X => (ahA, _) :: X ++ ((Ni, _) :: (Nf, _) :: H)) rfl rfl rfl cR Tryz.underlying25 (by simp) (.cons .id) aCv (cE.lit z0 (aG.le (aG.cons (x := wq) rfl rfl aG.nil) rfl) rfl) aLE rfl λ aSA aRt aCw => ⟨_, (.put rfl), ⟨rr, (ku (so (aP sr))), ?_⟩⟩))
  refine Any.cv 8 aBN (aB2 ads (aCw.rd (λ _ h => (.tail _ (List.mem_append_left _ h)))) S4) ?_
  rintro aSB aH9 _ ⟨Eb, rfl, _, aCz, rfl⟩
  replace ay := ay.mono Eb
  replace aB := aB.mono Eb
  replace aF := aF.mono Eb
  replace hG := hG.mono Eb
  replace Ec := Ec.mono Eb
  refine ⟨Eb, (ku (so (aP sr))), ?_⟩
  refine Any.cv 9 VP (VZ x0 (⟨ij, vR.2⟩ : cB) rN hG ay aB aF Ec aCz.rd IB) ?_
  rintro _ DX _ ⟨Ej, rfl, rfl⟩
  refine ⟨Ej, (ku (so (aP sr))), ?_⟩
  refine Any.vs 5 [10, 11, 12, 13, 14] rfl ?_
  exact Any.done (At.drop (so (aP sr)) (aK6 _ _ _ ⟨(Eb.trans Ej), rfl, aA.sub ⟨rfl, rfl, rfl, rfl, rfl, rfl, rfl, rfl, rfl, rfl, trivial⟩⟩))
 refine  (aR.to (Ox.buildSlice (cells := #[_]) rfl ck rfl (by decide) cS (bf rfl rfl rfl rfl aY) rfl λ ahA _ _ => ⟨_, (.put rfl), ⟨rr, (ku (so sr)), ?_⟩⟩))
 refine Any.on 2 rfl rfl (aR.to (Ox.buildSlice (cells := #[]) rfl ck rfl (by decide) p7 aY rfl λ aSU _ _ => ⟨_, (.put rfl), ⟨rr, (ku (so (so sr))), ?_⟩⟩))
 refine Any.on 4 rfl rfl (aR.to (Ox.append (K := CZ) (λ X => X ++ ((ahA, _) :: (Ni, _) :: (Nf, _) :: H)) rfl rfl rfl cR Tryz.underlying25 (by simp) .id (aZ.lit (aG.le aG.nil rfl) rfl) VK.arg aCy rfl λ aSz aRs aCv => ⟨_, (.put rfl), ⟨rr, (ku (aP (so sr))), ?_⟩⟩))
 refine Any.on 7 rfl rfl (aR.to (Ox.append (K := CZ) (λ X => X ++ ((ahA, _) :: (Ni, _) :: (Nf, _) :: H)) rfl rfl rfl cR Tryz.underlying25 (by simp) .id aCv (cE.lit (List.mem_append_right _ z0) (aG.le (aG.cons (x := wq) rfl rfl aG.nil) rfl) rfl) aLE rfl λ aSA aRt aCw => ⟨_, (.put rfl), ⟨rr, (ku (aP (so sr))), ?_⟩⟩))
 refine Any.cv 8 aBN (aB2 ads (aCw.rd (λ _ h => (List.mem_append_left _ h))) S4) ?_
 rintro aSB aH9 _ ⟨Eb, rfl, _, aCz, rfl⟩
 replace ay := ay.mono Eb
 replace aB := aB.mono Eb
 replace aF := aF.mono Eb
 replace hG := hG.mono Eb
 replace Ec := Ec.mono Eb
 refine ⟨Eb, (ku (aP (so sr))), ?_⟩
 refine Any.cv 9 VP (VZ x0 (⟨ij, vR.2⟩ : cB) rN hG ay aB aF Ec aCz.rd IB) ?_
 rintro _ DX _ ⟨Ej, rfl, rfl⟩
 refine ⟨Ej, (ku (aP (so sr))), ?_⟩
 refine Any.vs 5 [10, 11, 12, 13, 14] rfl ?_
 exact Any.done (At.drop (aP (so sr)) (aK6 _ _ _ ⟨(Eb.trans Ej), rfl, aA.sub ⟨rfl, rfl, rfl, rfl, rfl, rfl, rfl, rfl, rfl, rfl, trivial⟩⟩))
end
end Go.Proofs.YtabamagholjdcaaGreatDoor
