/- Walks, part 7: each function computes its model. -/
import Derived.Test.YtabamagholjdcaaGreatDoorQGHuP6
namespace Go.Proofs.YtabamagholjdcaaGreatDoor
open Go.Lg Go.Proofs
set_option maxRecDepth 100000
set_option maxHeartbeats 4000000
section
variable {B : Base} {main : Bool} {ah : Jd Tryz.prog B main} {R : aA} {H : ak}
theorem Vq (x0 : av) (x1 : Int) {aG aI aM : Value} (hG : fG R) (aE : az bI 5 R aG x0.au) (aJ : az CZ 1 R aI x0.Out) (aL : az bB 2 R aM x0.aU) {r : ((List Int) × Int)} (hM : sR x0 x1 = some r) : aB ah 43 #[.agg #[iv x0.aD, iv x0.af.ao, iv x0.af.ax, aG, aI, aM], iv x1] R H (λ v R' H' => aO R R' ∧ H = H' ∧ ∃ eP, az CZ 1 R' eP r.1 ∧ v = .tuple #[eP, iv r.2]) := by
 unfold sR at hM
 refine aB.bk Tryz.func43 rfl (n := 20) rfl rfl λ fr cs hk => ?_
 refine sg bw ?_
 refine bx λ j8 => ?_
 refine At.s rfl rfl (Ox.tW rfl rfl rfl rfl λ g9 _ _ => ⟨_, (.put rfl), ?_⟩)
 refine vs 2 ?_
 refine nx iG ?_
 refine lN [_, _, _, _, _, _] 0 6 bp z1 ?_
 refine At.s rfl rfl (Ox.makeFunc (vs := #[]) (us := #[_]) rfl rfl rfl rfl (.put rfl) ?_)
 obtain ⟨dW, uE, hM⟩ := aj hM
 refine At.cv od (oK x0 (λ y => Ae y x1) hG aE aJ aL ⟨127, #[], #[_], rfl, agC, λ R' H' hR hH y r va hA hr => by obtain ⟨_, rfl, ⟨pN, oP, pO, gB, fR, gC, rfl⟩⟩ := hA; exact (axD y x1 gB fR gC (aS.box (hH _ z0)) hr).mono λ _ _ _ ⟨h1, h2, h3⟩ => ⟨h1 ▸ rr, h2.symm, h3⟩⟩ uE) ?_
 rintro _ MQ _ ⟨um, aee, aB7, aB8, aB9, aCa, aCb, sj, sv, sw, sx, Gb, rfl, rfl⟩
 refine vs 3 ?_
 refine At.s rfl rfl (Ox.alloc (cs := #[iv 0, iv 0, iv 0, .slice none 0 0, .slice none 0 0, .slice none 0 0, .slice none 0 0, .map none]) rfl m4 rfl λ ia _ _ => ⟨_, (.put rfl), ?_⟩)
 refine At.s rfl rfl (Ox.bG (cs' := #[_, _, _, _, _, _, _, _]) rfl rfl rfl ej rfl (aq rfl (aq rfl (aq rfl (aq sj.one (aq sv.one (aq sw.one (aq sx.one (aq Gb.one aW)))))))) .here rfl rfl rfl (.refl _) ?_)
 refine vs 1 ?_
 refine es ?_
 refine sg aR ?_
 refine vs 2 ?_
 refine er ?_
 refine sc hM (λ zB hM => ?_) (λ zB hM => ?_)
 ·refine sg aT ?_
  refine vs 3 ?_
  refine er ?_
  obtain rfl := aa hM
  exact rt Tryz.func43 (.tmp rfl (.tmp rfl .nil)) (so (aH (so (so sr)))) (hk _ _ _ ⟨um, rfl, .slice none 0 0, az.nil, rfl⟩)
 refine sp ?_
 refine sg cB ?_
 refine lN [_, _, _, _, _, _, _, _] 0 8 ej z0 ?_
 refine At.s rfl rfl (Ox.makeFunc (vs := #[]) (us := #[_]) rfl rfl rfl rfl (.put rfl) ?_)
 refine At.EM (H2 := (ia, _) :: (g9, _) :: (j8, _) :: H) (λ X => (ia, _) :: X ++ ((g9, _) :: (j8, _) :: H)) (.cons .id) rfl Gb (λ V2 lE B9 => ?_)
 replace sj := sj.mono lE
 replace sv := sv.mono lE
 replace sw := sw.mono lE
 replace sx := sx.mono lE
 obtain ⟨eE, ot, hM⟩ := aj hM
 refine At.cv XD (aaO dW.1 (λ y => Af y x1) sj sv sw sx B9 ⟨129, #[], #[_], rfl, agD, λ R' H' hR hH y r va hA hr => by obtain ⟨_, rfl, ⟨Ac, rfl⟩⟩ := hA; exact (axF y x1 Ac (aS.box (hH _ z1)) hr).mono λ _ _ _ ⟨h1, h2, h3⟩ => ⟨h1 ▸ rr, h2.symm, h3⟩⟩ ot) ?_
 rintro aCg ID _ ⟨mB, rfl, _, auy, rfl⟩
 refine vs 2 ?_
 refine er ?_
 obtain rfl := aa hM
 exact rt Tryz.func43 (.tmp rfl (.tmp rfl .nil)) (so (so (so sr))) (hk _ _ _ ⟨((um.trans lE).trans mB), rfl, aCg, auy, rfl⟩)
theorem HV (x0 : av) {aG aI aM : Value} (hG : fG R) (aE : az bI 5 R aG x0.au) (aJ : az CZ 1 R aI x0.Out) (aL : az bB 2 R aM x0.aU) {r : (Int × Int)} (hM : oJ x0 = some r) : aB ah 44 #[.agg #[iv x0.aD, iv x0.af.ao, iv x0.af.ax, aG, aI, aM]] R H (λ v R' H' => aO R R' ∧ H = H' ∧ v = .tuple #[iv r.1, iv r.2]) := by
 unfold oJ at hM
 refine aB.bk Tryz.func44 rfl (n := 18) rfl rfl λ fr cs hk => ?_
 refine sg aT ?_
 refine bx λ j8 => ?_
 refine vs 2 ?_
 refine es ?_
 refine sg aT ?_
 refine lN [_, _, _, _, _, _] 0 6 bp z0 ?_
 obtain ⟨lW, si, hM⟩ := aj hM
 refine At.cv tZ (uT x0 hG aE aJ aL si) ?_
 rintro _ V6 _ ⟨qh, rfl, rfl⟩
 replace aE := aE.mono qh
 replace aJ := aJ.mono qh
 replace aL := aL.mono qh
 refine vs 1 ?_
 refine nx aR ?_
 refine vs 2 ?_
 refine er ?_
 refine sc hM (λ zB hM => ?_) (λ zB hM => ?_)
 ·refine sg aT ?_
  refine vs 3 ?_
  refine er ?_
  obtain rfl := aa hM
  exact rt Tryz.func44 (.tmp rfl (.tmp rfl .nil)) (so sr) (hk _ _ _ ⟨qh, rfl, rfl⟩)
 refine sp ?_
 refine sg aR ?_
 refine At.s rfl rfl (Ox.alloc (cs := #[iv 0]) rfl rC rfl λ j9 _ _ => ⟨_, (.put rfl), ?_⟩)
 refine At.s rfl rfl (Ox.cI (cs' := #[_]) rfl rfl rfl aV rfl .here rfl rfl rfl (.refl _) ?_)
 refine es ?_
 refine sg aT ?_
 refine lN [_, _, _, _, _, _] 0 6 bp z1 ?_
 refine At.s rfl rfl (Ox.build (cells := #[_, _, _, _, _, _]) rfl pK rfl (bq rfl rfl rfl rfl bD) rfl (.put rfl) ?_)
 refine At.s rfl rfl (Ox.makeFunc (vs := #[_]) (us := #[]) rfl rfl rfl rfl (.put rfl) ?_)
 refine er ?_
 refine At.block ?_
 refine At.drop (H' := (j9, .cells #[iv 0] 3) :: H) (sk (so sr)) ?_
 refine At.G9 (A := (j5 fM)) (λ y s => oI y (⟨x0.aD, ⟨x0.af.ao, x0.af.ax⟩, x0.au, x0.Out, x0.aU⟩ : av) s)  hM rfl NN rfl rfl rfl (λ (iT : Int) R' T H' => aO V6 R' ∧ H' = (j9, .cells #[iv iT] 3) :: T)  (λ iT R0 T0 H0 q => by obtain ⟨hR, rfl⟩ := q; exact ⟨(j9, .cells #[iv iT] 3) :: [], by simp, λ R1 T1 h => ⟨hR.trans h, by simp⟩⟩)  (λ v Inv Hy z hY hI hz => (Tl hY (⟨x0.aD, ⟨x0.af.ao, x0.af.ax⟩, x0.au, x0.Out, x0.aU⟩ : av) hI aE aJ aL hz).mono λ _ _ _ h => ⟨h.1, h.2.1⟩) ⟨rr, rfl⟩ ?_ ?_
 ·rintro TZ iT ML adJ _ ⟨yY, rfl⟩ hM
  refine At.inBlock ?_
  refine sg aT ?_
  refine ld 0 aV z0 ?_
  refine vs 2 ?_
  refine er ?_
  obtain rfl := aa hM
  exact At.qQ (.there .here) Tryz.func44 (.tmp rfl (.tmp rfl .nil)) (J.drop (so (so sr)) (hk _ _ _ ⟨(qh.trans yY), rfl, rfl⟩))
 rintro aBN yg iT ML We H33 l33 awu agm _ ajg ⟨_, rfl, ⟨uK, rfl⟩⟩ ⟨yY, rfl⟩ PN z33 hM MX
 refine sp ?_
 refine At.beginRound rfl rfl (.there .here) PN ?_
 refine At.block ?_
 refine At.rg aT ?_
 refine ld 0 aV z0 ?_
 refine vs 1 ?_
 refine At.s rfl rfl (Ox.cI (cs' := #[_]) rfl rfl rfl aV rfl .here rfl rfl rfl (.refl _) ?_)
 refine er ?_
 refine At.inBlock ?_
 exact MX _ (aa hM).symm _ _ _ (rr) ⟨yY, rfl⟩
theorem Tz (x0 : Int) (x1 : Int)  {r : Reach} (hM : uS x0 x1 = some r) : aB ah 72 #[iv x0, iv x1] R H (λ v R' H' => R = R' ∧ H = H' ∧ v = .agg #[iv r.ao, iv r.ax]) := by
 unfold uS at hM
 refine aB.bk Tryz.func72 rfl (n := 8) rfl rfl λ fr cs hk => ?_
 refine sg aQ ?_
 refine At.s rfl rfl (Ox.alloc (cs := #[iv 0, iv 0]) rfl Bq rfl λ nc _ _ => ⟨_, (.put rfl), ?_⟩)
 refine nx bw ?_
 refine vs 2 ?_
 refine At.s rfl rfl (Ox.build (cells := #[_, _]) rfl Le rfl (bq rfl rfl rfl rfl (bq rfl rfl rfl rfl bD)) rfl (.put rfl) ?_)
 refine At.s rfl rfl (Ox.bG (cs' := #[_, _]) rfl rfl rfl fW rfl (aq rfl (aq rfl aW)) .here rfl rfl rfl (.refl _) ?_)
 refine er ?_
 obtain rfl := aa hM
 exact rt Tryz.func72 (.agg rfl fW rfl (aS.box z0) .nil) (so sr) (hk _ _ _ ⟨rfl, rfl, rfl⟩)
theorem DU (x0 : Int)  {r : Reach} (hM : pE x0 = some r) : aB ah 45 #[iv x0] R H (λ v R' H' => R = R' ∧ H = H' ∧ v = .agg #[iv r.ao, iv r.ax]) := by
 unfold pE at hM
 refine aB.bk Tryz.func45 rfl (n := 6) rfl rfl λ fr cs hk => ?_
 refine sg aQ ?_
 refine At.s rfl rfl (Ox.alloc (cs := #[iv 0, iv 0]) rfl Bq rfl λ kG _ _ => ⟨_, (.put rfl), ?_⟩)
 refine nx bw ?_
 refine vs 2 ?_
 obtain ⟨eW, ko, hM⟩ := aj hM
 refine At.cv N0 (Tz x0 x0  ko) ?_
 rintro _ _ _ ⟨rfl, rfl, rfl⟩
 refine At.s rfl rfl (Ox.bG (cs' := #[_, _]) rfl rfl rfl fW rfl (aq rfl (aq rfl aW)) .here rfl rfl rfl (.refl _) ?_)
 refine er ?_
 obtain rfl := aa hM
 exact rt Tryz.func45 (.agg rfl fW rfl (aS.box z0) .nil) (so sr) (hk _ _ _ ⟨rfl, rfl, rfl⟩)
theorem ax0 (x0 : Int)  {r : Bool} (hM : Cx x0 = some r) : aB ah 159 #[iv x0] R H (λ v R' H' => R = R' ∧ H = H' ∧ v = .bool r) := by
 unfold Cx at hM
 refine aB.bk Tryz.func159 rfl (n := 6) rfl rfl λ fr cs hk => ?_
 refine sg aQ ?_
 refine vs 1 ?_
 refine nx bw ?_
 refine vs 1 ?_
 obtain ⟨cy, eN, hM⟩ := aj hM
 refine At.cv qc (qC x0 0 99  eN) ?_
 rintro _ _ _ ⟨rfl, rfl, rfl⟩
 refine vs 2 ?_
 refine er ?_
 obtain rfl := aa hM
 exact rt Tryz.func159 (.tmp rfl .nil) sr (hk _ _ _ ⟨rfl, rfl, rfl⟩)
theorem axG (x0 : av) (x1 : gM) {aG aI aM AQ : Value} (aE : az bI 5 R aG x0.au) (_ : az CZ 1 R aI x0.Out) (_ : az bB 2 R aM x0.aU) (uf : az CZ 1 R AQ x1.eX) {r : (bn × Int)} (hM : GH x0 x1 = some r) : aB ah 131 #[.agg #[iv x0.aD, iv x0.af.ao, iv x0.af.ax, aG, aI, aM], .agg #[iv x1.af, AQ]] R H (λ v R' H' => aO R R' ∧ H = H' ∧ r.1.weights.length = 5 ∧ v = .tuple #[.agg (List.toArray ([iv r.1.fq] ++ (r.1.weights.map (Value.int .i64) ++ []))), iv r.2]) := by
 unfold GH at hM
 refine aB.bk Tryz.func131 rfl (n := 37) rfl rfl λ fr cs hk => ?_
 refine sg bw ?_
 refine bx λ kI => ?_
 refine bx λ tU => ?_
 refine At.s rfl rfl (Ox.alloc (cs := (List.toArray ([iv 0] ++ ([0, 0, 0, 0, 0].map (Value.int .i64) ++ [])))) rfl yp rfl λ Eu _ _ => ⟨_, (.put rfl), ?_⟩)
 refine vs 1 ?_
 refine es ?_
 refine At.block ?_
 refine sg cB ?_
 refine vs 1 ?_
 refine ld 0 aV z1 ?_
 obtain ⟨eL, oC, hM⟩ := aj hM
 refine At.cv qc (qC x1.af (-999) 999  oC) ?_
 rintro _ _ _ ⟨rfl, rfl, rfl⟩
 refine vs 2 ?_
 refine er ?_
 refine sc hM (λ RB hM => ?_) (λ RB hM => ?_)
 ·refine sg aT ?_
  refine At.s rfl rfl (Ox.build (cells := (List.toArray ([iv 0] ++ ([0, 0, 0, 0, 0].map (Value.int .i64) ++ [])))) rfl Hh rfl rfl rfl (.put rfl) ?_)
  refine At.s rfl rfl (Ox.bG (cs' := _) rfl rfl rfl eG (by simp) (cr (aq rfl aW) (cr (ew λ _ => rfl) aW)) .here (by simp) (dZ (by simp [])) rfl (.refl _) ?_)
  refine vs 1 ?_
  refine er ?_
  obtain rfl := aa hM
  exact rt Tryz.func131 (.agg rfl eG (by simp) (aS.box z0) (.tmp rfl .nil)) (so (so (so sr))) (hk _ _ _ ⟨(rr), rfl, rfl, rfl⟩)
 refine sg iG ?_
 refine vs 1 ?_
 refine ld 1 cO z1 ?_
 refine ls uf Tryz.underlying25 ?_
 refine vs 2 ?_
 refine ld 3 dc z2 ?_
 refine ls aE Tryz.underlying24 ?_
 refine vs 2 ?_
 refine er ?_
 refine sc hM (λ uz hM => ?_) (λ uz hM => ?_)
 ·refine sg aT ?_
  refine At.s rfl rfl (Ox.build (cells := (List.toArray ([iv 0] ++ ([0, 0, 0, 0, 0].map (Value.int .i64) ++ [])))) rfl Hh rfl rfl rfl (.put rfl) ?_)
  refine At.s rfl rfl (Ox.bG (cs' := _) rfl rfl rfl eG (by simp) (cr (aq rfl aW) (cr (ew λ _ => rfl) aW)) .here (by simp) (dZ (by simp [])) rfl (.refl _) ?_)
  refine vs 1 ?_
  refine er ?_
  obtain rfl := aa hM
  exact rt Tryz.func131 (.agg rfl eG (by simp) (aS.box z0) (.tmp rfl .nil)) (so (so (so sr))) (hk _ _ _ ⟨(rr), rfl, rfl, rfl⟩)
 refine sg bw ?_
 refine vs 1 ?_
 refine ld 1 cO z1 ?_
 obtain ⟨eF, oD, hM⟩ := aj hM
 refine At.cv XH (aaS x1.eX (λ y => Cx y) uf.rd ⟨159, #[], #[], rfl, agP, λ R' H' hR hH y r va hA hr => by obtain rfl := hA; exact (ax0 y  hr).mono λ _ _ _ ⟨h1, h2, h3⟩ => ⟨h1 ▸ rr, h2.symm, h3⟩⟩ oD) ?_
 rintro _ II _ ⟨iz, rfl, rfl⟩
 replace uf := uf.mono iz
 refine vs 1 ?_
 refine er ?_
 refine sc hM (λ RE hM => ?_) (λ RE hM => ?_)
 ·refine sg aT ?_
  refine At.s rfl rfl (Ox.build (cells := (List.toArray ([iv 0] ++ ([0, 0, 0, 0, 0].map (Value.int .i64) ++ [])))) rfl Hh rfl rfl rfl (.put rfl) ?_)
  refine At.s rfl rfl (Ox.bG (cs' := _) rfl rfl rfl eG (by simp) (cr (aq rfl aW) (cr (ew λ _ => rfl) aW)) .here (by simp) (dZ (by simp [])) rfl (.refl _) ?_)
  refine vs 1 ?_
  refine er ?_
  obtain rfl := aa hM
  exact rt Tryz.func131 (.agg rfl eG (by simp) (aS.box z0) (.tmp rfl .nil)) (so (so (so sr))) (hk _ _ _ ⟨iz, rfl, rfl, rfl⟩)
 refine sp ?_
 refine At.inBlock ?_
 refine sg cB ?_
 refine vs 1 ?_
 refine ld 0 aV z1 ?_
 refine At.s rfl rfl (Ox.build (cells := (List.toArray ([iv x1.af] ++ ([0, 0, 0, 0, 0].map (Value.int .i64) ++ [])))) rfl Hh rfl rfl rfl (.put rfl) ?_)
 refine At.s rfl rfl (Ox.alloc (cs := (List.toArray ([iv 0] ++ ([0, 0, 0, 0, 0].map (Value.int .i64) ++ [])))) rfl yp rfl λ b60 _ _ => ⟨_, (.put rfl), ?_⟩)
 refine At.s rfl rfl (Ox.bG (cs' := _) rfl rfl rfl eG (by simp) (cr (aq rfl aW) (cr (ew λ _ => rfl) aW)) .here (by simp) (dZ (by simp [])) rfl (.refl _) ?_)
 refine es ?_
 refine At.draw (n := 5) (is := [0, 1, 2, 3, 4]) (many ((b60, .cells (List.toArray ([iv x1.af] ++ ([0, 0, 0, 0, 0].map (Value.int .i64) ++ []))) 125) :: (Eu, .cells (List.toArray ([iv 0] ++ ([0, 0, 0, 0, 0].map (Value.int .i64) ++ []))) 125) :: (tU, .cells #[iv x1.af, AQ] 66) :: (kI, .cells #[iv x0.aD, iv x0.af.ao, iv x0.af.ax, aG, aI, aM] 102) :: H) [(4, (Eu, .cells (List.toArray ([iv 0] ++ ([0, 0, 0, 0, 0].map (Value.int .i64) ++ []))) 125) :: (tU, .cells #[iv x1.af, AQ] 66) :: (kI, .cells #[iv x0.aD, iv x0.af.ao, iv x0.af.ax, aG, aI, aM] 102) :: H)]) mixed rfl (by decide +kernel) rfl rfl ?_
 refine Any.vs 1 [0] rfl ?_
 refine ts 1 [4] rfl (aN rfl (bf (su (so (so (so (so sr))))))) (su (so (so (so (so sr))))) (λ R' H' hR hS => Ox.aA8 rfl rfl Er rfl (.one rfl) ⟨rfl, rfl, rfl⟩) ?_
 refine Any.vs 1 [2] rfl ?_
 refine ts 3 [4] rfl (aN rfl (bf (su (so (so (sk (so sr))))))) (su (so (so (sk (so sr))))) (λ R' H' hR hS => Ox.bu rfl rfl cO ((aS.box (hS _ z0)).one (j := 1) rfl) rfl (.one rfl) ⟨rfl, rfl, rfl⟩) ?_
 refine Any.on 4 rfl rfl (aP.to (Ox.agk rfl rfl rfl bm Tryz.underlying25 uf.rd rfl .here rfl rfl (.put rfl) ⟨rr, (bL rfl (su (so sr))), ?_⟩))
 refine Any.done ?_
 refine sg aT ?_
 refine At.s rfl rfl (Ox.ck (vs := _) rfl rfl eG (by simp [(BR rfl)]) ((aS.box z0).part (j := 0) (n := 6) (ee (by simp [(BR rfl)]))) rfl (.put rfl) ?_)
 refine At.s rfl rfl (Ox.bG (cs' := _) rfl rfl rfl eG (by simp [(BR rfl)]) (cr (aq rfl aW) (cr (ew λ _ => rfl) aW)) (.there .here) (by simp) (dZ (by simp [(BR rfl)])) rfl (.refl _) ?_)
 refine vs 1 ?_
 refine er ?_
 obtain rfl := aa hM
 exact rt Tryz.func131 (.agg rfl eG (by simp [(BR rfl)]) (aS.box z1) (.tmp rfl .nil)) (so (so (so (so sr)))) (hk _ _ _ ⟨iz, rfl, (BR rfl), rfl⟩)
theorem ay3 (x0 : av) (x1 : gM) (x2 : (List Int)) {aG aI aM AQ v2 : Value} (hG : fG R) (aE : az bI 5 R aG x0.au) (aJ : az CZ 1 R aI x0.Out) (aL : az bB 2 R aM x0.aU) (uf : az CZ 1 R AQ x1.eX) (h2 : bV CZ 1 R H v2 x2) {r : (Int × Int)} (hM : CP x0 x1 x2 = some r) : aB ah 50 #[.agg #[iv x0.aD, iv x0.af.ao, iv x0.af.ax, aG, aI, aM], .agg #[iv x1.af, AQ], v2] R H (λ v R' H' => aO R R' ∧ H = H' ∧ v = .tuple #[iv r.1, iv r.2]) := by
 unfold CP at hM
 refine aB.bk Tryz.func50 rfl (n := 43) rfl rfl λ fr cs hk => ?_
 refine sg bw ?_
 refine bx λ nh => ?_
 refine bx λ gw => ?_
 refine vs 2 ?_
 refine es ?_
 refine sg aT ?_
 refine lN [_, _, _, _, _, _] 0 6 bp z1 ?_
 obtain ⟨jH, wN, hM⟩ := aj hM
 refine At.cv tZ (uT x0 hG aE aJ aL wN) ?_
 rintro _ MS _ ⟨iO, rfl, rfl⟩
 replace aE := aE.mono iO
 replace aJ := aJ.mono iO
 replace aL := aL.mono iO
 replace uf := uf.mono iO
 replace h2 := h2.le iO
 refine vs 1 ?_
 refine nx aR ?_
 refine vs 2 ?_
 refine er ?_
 refine sc hM (λ zD hM => ?_) (λ zD hM => ?_)
 ·refine sg aT ?_
  refine vs 3 ?_
  refine er ?_
  obtain rfl := aa hM
  exact rt Tryz.func50 (.tmp rfl (.tmp rfl .nil)) (so (so sr)) (hk _ _ _ ⟨iO, rfl, rfl⟩)
 refine sp ?_
 refine sg bw ?_
 refine lN [_, _, _, _, _, _] 0 6 bp z1 ?_
 refine At.s rfl rfl (Ox.build (cells := #[_, _, _, _, _, _]) rfl pK rfl (bq rfl rfl rfl rfl bD) rfl (.put rfl) ?_)
 refine At.s rfl rfl (Ox.alloc (cs := #[iv 0, iv 0, iv 0, .slice none 0 0, .slice none 0 0, .slice none 0 0]) rfl Vc rfl λ b44 _ _ => ⟨_, (.put rfl), ?_⟩)
 refine At.s rfl rfl (Ox.bG (cs' := #[_, _, _, _, _, _]) rfl rfl rfl dS rfl (aq rfl (aq rfl (aq rfl (aq aE.one (aq aJ.one (aq aL.one aW)))))) .here rfl rfl rfl (.refl _) ?_)
 refine nx iG ?_
 refine lN [_, _, _, _, _, _] 0 6 dS z0 ?_
 refine lN [_, _] 0 2 afz z1 ?_
 obtain ⟨fD, qx, hM⟩ := aj hM
 refine At.cv agE (axG x0 x1 aE aJ aL uf qx) ?_
 rintro _ aeR _ ⟨qi, rfl, GC, rfl⟩
 replace aE := aE.mono qi
 replace aJ := aJ.mono qi
 replace aL := aL.mono qi
 replace h2 := h2.le qi
 refine vs 3 ?_
 refine At.s rfl rfl (Ox.alloc (cs := (List.toArray ([iv 0] ++ ([0, 0, 0, 0, 0].map (Value.int .i64) ++ [])))) rfl yp rfl λ tV _ _ => ⟨_, (.put rfl), ?_⟩)
 refine At.s rfl rfl (Ox.bG (cs' := _) rfl rfl rfl eG (by simp [GC]) (cr (aq rfl aW) (cr (ew λ _ => rfl) aW)) .here (by simp) (dZ (by simp [GC])) rfl (.refl _) ?_)
 refine vs 1 ?_
 refine es ?_
 refine sg aR ?_
 refine vs 2 ?_
 refine er ?_
 refine sc hM (λ uy hM => ?_) (λ uy hM => ?_)
 ·refine sg aT ?_
  refine vs 3 ?_
  refine er ?_
  obtain rfl := aa hM
  exact rt Tryz.func50 (.tmp rfl (.tmp rfl .nil)) (so (so (so (so sr)))) (hk _ _ _ ⟨(iO.trans qi), rfl, rfl⟩)
 refine sp ?_
 refine sq ?_
 refine sg c6 ?_
 refine vs 2 ?_
 refine ld 3 dc z3 ?_
 refine ls aE Tryz.underlying24 ?_
 obtain ⟨oS, zP, hM⟩ := aj hM
 refine At.cv NO (Tm x2 (x0.au.length : Int) (h2.sub (su (so (so (so (so sr)))))) zP) ?_
 rintro _ _ _ ⟨rfl, rfl, rfl⟩
 refine vs 1 ?_
 refine nx aR ?_
 refine vs 2 ?_
 refine er ?_
 refine sc hM (λ FP hM => ?_) (λ FP hM => ?_)
 ·refine sg aT ?_
  refine vs 3 ?_
  refine er ?_
  obtain rfl := aa hM
  exact rt Tryz.func50 (.tmp rfl (.tmp rfl .nil)) (so (so (so (so sr)))) (hk _ _ _ ⟨(iO.trans qi), rfl, rfl⟩)
 refine sp ?_
 refine sq ?_
 refine At.dw eK mixed ?_
 refine tN 0 [_, _, _, _, _, _] 0 6 dS z1 ?_
 refine Any.tk 1 rfl pp (λ R' H' hR hS => Ox.ck (vs := _) rfl rfl eG (by simp [GC]) ((aS.box (hS _ z0)).part (j := 0) (n := 6) (ee (by simp [GC]))) rfl (.one rfl) ⟨rfl, rfl, rfl⟩) ?_
 refine Any.tk 2 rfl pp (λ R' H' hR hS => Ox.p9 (z := (List.toArray ([] ++ ([false, false, false, false, false].map Value.bool ++ [])))) rfl pZ rfl (.one rfl) ⟨rfl, rfl, rfl⟩) ?_
 refine Any.vs 1 [3] rfl ?_
 obtain ⟨Bm, SF, hM⟩ := aj hM
 refine Any.cv 4 fX (gb [false, false, false, false, false] x2 rfl (h2.sub (su (so (so (so (so sr)))))) SF) ?_
 rintro _ _ _ ⟨rfl, rfl, axr, rfl⟩
 refine kp ?_
 obtain ⟨ei, kP, hM⟩ := aj hM
 refine Any.cv 5 vU (w7 x0 fD.1 Bm aE aJ aL GC axr kP) ?_
 rintro _ _ _ ⟨rfl, rfl, rfl⟩
 refine kp ?_
 refine Any.vs 2 [6, 7] rfl ?_
 refine Any.done ?_
 obtain rfl := aa hM
 exact rt Tryz.func50 (.tmp rfl (.tmp rfl .nil)) (so (so (so (so sr)))) (hk _ _ _ ⟨(iO.trans qi), rfl, rfl⟩)
theorem ay4 (x0 : av) {aG aI aM : Value} (hG : fG R) (aE : az bI 5 R aG x0.au) (aJ : az CZ 1 R aI x0.Out) (aL : az bB 2 R aM x0.aU) {r : ((List Int) × Int)} (hM : CQ x0 = some r) : aB ah 53 #[.agg #[iv x0.aD, iv x0.af.ao, iv x0.af.ax, aG, aI, aM]] R H (λ v R' H' => aO R R' ∧ H = H' ∧ ∃ eP, az CZ 1 R' eP r.1 ∧ v = .tuple #[eP, iv r.2]) := by
 unfold CQ at hM
 refine aB.bk Tryz.func53 rfl (n := 17) rfl rfl λ fr cs hk => ?_
 refine sg aT ?_
 refine bx λ j8 => ?_
 refine vs 2 ?_
 refine es ?_
 refine sg aT ?_
 refine lN [_, _, _, _, _, _] 0 6 bp z0 ?_
 obtain ⟨lW, si, hM⟩ := aj hM
 refine At.cv tZ (uT x0 hG aE aJ aL si) ?_
 rintro _ V6 _ ⟨qh, rfl, rfl⟩
 replace aE := aE.mono qh
 replace aJ := aJ.mono qh
 replace aL := aL.mono qh
 refine vs 1 ?_
 refine nx aR ?_
 refine vs 2 ?_
 refine er ?_
 refine sc hM (λ zB hM => ?_) (λ zB hM => ?_)
 ·refine sg aT ?_
  refine vs 3 ?_
  refine er ?_
  obtain rfl := aa hM
  exact rt Tryz.func53 (.tmp rfl (.tmp rfl .nil)) (so sr) (hk _ _ _ ⟨qh, rfl, .slice none 0 0, az.nil, rfl⟩)
 refine sp ?_
 refine sq ?_
 refine At.dw iG mixed ?_
 refine tN 0 [_, _, _, _, _, _] 0 6 bp z0 ?_
 refine Any.tk 1 rfl pp (λ R' H' hR hS => Ox.build (cells := #[_, _, _, _, _, _]) rfl pK rfl (bq rfl rfl rfl rfl bD) rfl (.one rfl) ⟨rfl, rfl, rfl⟩) ?_
 refine Any.tk 2 rfl pp (λ R' H' hR hS => Ox.p9 (z := (List.toArray ([] ++ ([false, false, false, false, false].map Value.bool ++ [])))) rfl pZ rfl (.one rfl) ⟨rfl, rfl, rfl⟩) ?_
 refine Any.vs 1 [3] rfl ?_
 refine tl 4 4 cO z0 ?_
 obtain ⟨eE, ot, hM⟩ := aj hM
 refine Any.cv 5 fX (gb [false, false, false, false, false] x0.Out rfl aJ.rd ot) ?_
 rintro _ _ _ ⟨rfl, rfl, axq, rfl⟩
 refine kp ?_
 obtain ⟨gZ, uF, hM⟩ := aj hM
 refine Any.cv 6 N1 (TB (⟨x0.aD, ⟨x0.af.ao, x0.af.ax⟩, x0.au, x0.Out, x0.aU⟩ : av) eE aE aJ aL axq uF) ?_
 rintro aCi aeP _ ⟨rX, rfl, _, auB, rfl⟩
 refine ⟨rX, ka, ?_⟩
 refine Any.vs 2 [7, 8] rfl ?_
 refine Any.done ?_
 obtain rfl := aa hM
 exact rt Tryz.func53 (.tmp rfl (.tmp rfl .nil)) (so sr) (hk _ _ _ ⟨(qh.trans rX), rfl, aCi, auB, rfl⟩)
theorem Cy (x0 : av) (x1 : (List Int)) {aG aI aM v1 : Value} {b1 : Nat} (aE : az bI 5 R aG x0.au) (_ : az CZ 1 R aI x0.Out) (_ : az bB 2 R aM x0.aU) (cK : aS R H b1 0 [v1]) (h1 : az CZ 1 R v1 x1) {r : Int} (hM : pB x0 x1 = some r) : aB ah 160 #[.agg #[iv x0.aD, iv x0.af.ao, iv x0.af.ax, aG, aI, aM], .pointer (some ⟨b1, 0, none⟩)] R H (λ v R' H' => R = R' ∧ H = H' ∧ v = iv r) := by
 unfold pB at hM
 refine aB.bk Tryz.func160 rfl (n := 10) rfl rfl λ fr cs hk => ?_
 refine sg aR ?_
 refine bx λ kG => ?_
 refine vs 1 ?_
 refine nx fe ?_
 refine At.ld cO ((cK.sub (su (so sr))).one (j := 0) rfl) ?_
 refine vs 2 ?_
 refine ld 3 dc z0 ?_
 refine ls aE Tryz.underlying24 ?_
 obtain ⟨eW, ko, hM⟩ := aj hM
 refine At.cv NO (Tm x1 (x0.au.length : Int) h1.rd ko) ?_
 rintro _ _ _ ⟨rfl, rfl, rfl⟩
 refine vs 1 ?_
 refine er ?_
 obtain rfl := aa hM
 exact rt Tryz.func160 (.tmp rfl .nil) (so sr) (hk _ _ _ ⟨rfl, rfl, rfl⟩)
theorem Ky (x0 : (List Int)) {v0 : Value} (h0 : az CZ 1 R v0 x0) {r : (List Int)} (hM : Ct x0 = some r) : aB ah 133 #[v0] R H (λ v R' H' => aO R R' ∧ H = H' ∧ ∃ acy Ev, aS R' [] Ev 0 [acy] ∧ az CZ 1 R' acy r ∧ v = .func (.func 160) #[] #[.pointer (some ⟨Ev, 0, none⟩)]) := by
 unfold Ct at hM
 refine aB.bk Tryz.func133 rfl (n := 4) rfl rfl λ fr cs hk => ?_
 refine sg aR ?_
 refine At.s rfl rfl (Ox.tW rfl rfl h0.cells rfl λ kG _ _ => ⟨_, (.put rfl), ?_⟩)
 refine vs 1 ?_
 refine nx aR ?_
 refine At.s rfl rfl (Ox.makeFunc (vs := #[]) (us := #[_]) rfl rfl rfl rfl (.put rfl) ?_)
 refine vs 1 ?_
 refine er ?_
 refine At.nv (H2 := H) (λ X => X ++ (H)) .id rfl (λ V1 kL iP => ?_)
 replace h0 := h0.mono kL
 obtain rfl := aa hM
 exact rt Tryz.func133 (.tmp rfl .nil) sr (hk _ _ _ ⟨kL, rfl, v0, kG, iP, h0, rfl⟩)
theorem axI (x0 : bn) (x1 : cR) (x2 : (List Int)) {jZ iW j0 x5 x6 v2 : Value} {b1 b2 : Nat} (ga : x0.weights.length = 5) (cK : aS R H b1 0 [iv x1.book.aD, iv x1.book.af.ao, iv x1.book.af.ax, jZ, iW, j0, x5, x6]) (lA : az bI 5 R jZ x1.book.au) (lB : az CZ 1 R iW x1.book.Out) (lC : az bB 2 R j0 x1.book.aU) (_ : az fM 6 R x5 x1.dI) (_ : m8 R x6 x1.nR) (bC : aS R H b2 0 [v2]) (h2 : az CZ 1 R v2 x2) {r : Bool} (hM : Cu x0 x1 x2 = some r) : aB ah 134 #[.agg (List.toArray ([iv x0.fq] ++ (x0.weights.map (Value.int .i64) ++ []))), .pointer (some ⟨b1, 0, none⟩), .pointer (some ⟨b2, 0, none⟩)] R H (λ v R' H' => R = R' ∧ H = H' ∧ v = .bool r) := by
 unfold Cu at hM
 refine aB.bk Tryz.func134 rfl (n := 15) rfl rfl λ fr cs hk => ?_
 refine sg aR ?_
 refine bx λ rN => ?_
 refine vs 1 ?_
 refine es ?_
 refine At.dw xK mixed ?_
 refine Any.vs 1 [0] rfl ?_
 refine Any.tk 1 rfl pp (λ R' H' hR hS => Ox.ck (vs := [_, _, _, _, _, _]) rfl rfl dS rfl (((cK.le hR).sub (λ p h => hS p ((su (so sr)) p h))).part (j := 0) (n := 6) rfl) rfl (.one rfl) ⟨rfl, rfl, rfl⟩) ?_
 refine Any.vs 1 [2] rfl ?_
 refine Any.tk 3 rfl pp (λ R' H' hR hS => Ox.ck (vs := [_, _, _, _, _, _]) rfl rfl dS rfl (((cK.le hR).sub (λ p h => hS p ((su (so sr)) p h))).part (j := 0) (n := 6) rfl) rfl (.one rfl) ⟨rfl, rfl, rfl⟩) ?_
 refine Any.tk 4 rfl pp (λ R' H' hR hS => Ox.ck (vs := _) rfl rfl eG (by simp [ga]) ((aS.box (hS _ z0)).part (j := 0) (n := 6) (ee (by simp [ga]))) rfl (.one rfl) ⟨rfl, rfl, rfl⟩) ?_
 refine Any.tk 5 rfl pp (λ R' H' hR hS => Ox.p9 (z := (List.toArray ([] ++ ([false, false, false, false, false].map Value.bool ++ [])))) rfl pZ rfl (.one rfl) ⟨rfl, rfl, rfl⟩) ?_
 refine Any.tk 6 rfl pp (λ R' H' hR hS => Ox.bu rfl rfl cO (((bC.le hR).sub (λ p h => hS p ((su (so sr)) p h))).one (j := 0) rfl) rfl (.one rfl) ⟨rfl, rfl, rfl⟩) ?_
 obtain ⟨fB, mH, hM⟩ := aj hM
 refine Any.cv 7 fX (gb [false, false, false, false, false] x2 rfl h2.rd mH) ?_
 rintro _ _ _ ⟨rfl, rfl, axo, rfl⟩
 refine kp ?_
 obtain ⟨fC, oq, hM⟩ := aj hM
 refine Any.cv 8 vU (w7 x1.book x0 fB lA lB lC ga axo oq) ?_
 rintro _ _ _ ⟨rfl, rfl, rfl⟩
 refine kp ?_
 obtain ⟨k6, zK, hM⟩ := aj hM
 refine Any.cv 9 NG (Tc x1.book fC lA lB lC zK) ?_
 rintro _ _ _ ⟨rfl, rfl, rfl⟩
 refine kp ?_
 refine Any.vs 1 [10] rfl ?_
 refine Any.done ?_
 obtain rfl := aa hM
 exact rt Tryz.func134 (.tmp rfl .nil) (so sr) (hk _ _ _ ⟨rfl, rfl, rfl⟩)
theorem aa2 (x0 : av) (x1 : (List Int)) {aG aI aM v1 : Value} (hG : fG R) (aE : az bI 5 R aG x0.au) (aJ : az CZ 1 R aI x0.Out) (aL : az bB 2 R aM x0.aU) (h1 : az CZ 1 R v1 x1) {r : (Int × Int)} (hM : AB x0 x1 = some r) : aB ah 56 #[.agg #[iv x0.aD, iv x0.af.ao, iv x0.af.ax, aG, aI, aM], v1] R H (λ v R' H' => aO R R' ∧ H = H' ∧ v = .tuple #[iv r.1, iv r.2]) := by
 unfold AB at hM
 refine aB.bk Tryz.func56 rfl (n := 21) rfl rfl λ fr cs hk => ?_
 refine sg bw ?_
 refine bx λ jk => ?_
 refine At.s rfl rfl (Ox.tW rfl rfl h1.cells rfl λ ia _ _ => ⟨_, (.put rfl), ?_⟩)
 refine vs 2 ?_
 refine es ?_
 obtain ⟨eD, mI, hM⟩ := aj hM
 obtain ⟨eE, ot, hM⟩ := aj hM
 refine At.cut (λ R' H' st' => aO R R' ∧ ∃ (e7 : Nat) (vo : Value) (vp : Value) (vq : Value) (vr : Value) (vt : Value) (pW : ak), az bI 5 R' vo eE.1.book.au ∧ az CZ 1 R' vp eE.1.book.Out ∧ az bB 2 R' vq eE.1.book.aU ∧ az fM 6 R' vr eE.1.dI ∧ l8 vt eE.1.nR pW ∧ H' = (e7, .cells #[iv eE.1.book.aD, iv eE.1.book.af.ao, iv eE.1.book.af.ax, vo, vp, vq, vr, vt] 106) :: pW ++ ((ia, .cells #[v1] 25) :: H) ∧ aF st' [(3, .pointer (some ⟨ia, 0, none⟩)), (6, .pointer (some ⟨e7, 0, none⟩)), (7, iv eE.2)]) ?_ ?_
 ·rintro aGI aEO aQv ⟨OF, e7, vo, vp, vq, vr, vt, pW, ou, ov, ow, ox, sC, rfl, aqK⟩
  refine At.sub aqK ?_
  replace h1 := h1.mono OF
  refine sq ?_
  refine sg aR ?_
  refine vs 2 ?_
  refine er ?_
  refine sc hM (λ arE hM => ?_) (λ arE hM => ?_)
  ·refine sg aT ?_
   refine vs 3 ?_
   refine er ?_
   obtain rfl := aa hM
   exact rt Tryz.func56 (.tmp rfl (.tmp rfl .nil)) (so (aH (so sr))) (hk _ _ _ ⟨OF, rfl, rfl⟩)
  refine sp ?_
  refine sg cB ?_
  refine lN [_, _, _, _, _, _, _, _] 0 8 ej z0 ?_
  refine At.s rfl rfl (Ox.makeFunc (vs := #[]) (us := #[_, _]) rfl rfl rfl rfl (.put rfl) ?_)
  refine At.EM (H2 := (e7, _) :: (ia, _) :: H) (λ X => (e7, _) :: X ++ ((ia, _) :: H)) (.cons .id) rfl sC (λ aeL rW JO => ?_)
  replace h1 := h1.mono rW
  replace ou := ou.mono rW
  replace ov := ov.mono rW
  replace ow := ow.mono rW
  replace ox := ox.mono rW
  obtain ⟨cL, uG, hM⟩ := aj hM
  refine At.cv XA (aaK eE.1 (λ y => Cu y eE.1 x1) ou ov ow ox JO ⟨134, #[], #[_, _], rfl, agF, λ R' H' hR hH y r va hA hr => by obtain ⟨_, rfl, ⟨Ac, rfl⟩⟩ := hA; exact (axI y eE.1 x1 Ac (aS.box (hH _ z0)) (ou.mono hR) (ov.mono hR) (ow.mono hR) (ox.mono hR) (JO.mono hR) (aS.box (hH _ z1)) (h1.mono hR) hr).mono λ _ _ _ ⟨h1, h2, h3⟩ => ⟨h1 ▸ rr, h2.symm, h3⟩⟩ uG) ?_
  rintro _ IE _ ⟨jv, rfl, rfl⟩
  refine vs 2 ?_
  refine er ?_
  obtain rfl := aa hM
  exact rt Tryz.func56 (.tmp rfl (.tmp rfl .nil)) (so (so sr)) (hk _ _ _ ⟨((OF.trans rW).trans jv), rfl, rfl⟩)
 intro OX
 refine At.dw mS mixed ?_
 refine tN 0 [_, _, _, _, _, _] 0 6 bp z1 ?_
 refine tl 1 0 cO z0 ?_
 refine tw 2 7 ?_ ?_
 ·refine  (Ox.cD rfl rfl rfl rfl Jh rfl rfl ((Ky x1 h1 mI).mono ?_))
  rintro _ yH _ ⟨cV, rfl, aCf, afY, sB, Kf, rfl⟩
  replace aE := aE.mono cV
  replace aJ := aJ.mono cV
  replace aL := aL.mono cV
  replace h1 := h1.mono cV
  replace hG := hG.mono cV
  refine ⟨_, (.put rfl), ⟨cV, ka, ?_⟩⟩
  refine tw 3 7 ?_ ?_
  ·refine  (Ox.cD rfl rfl rfl rfl od rfl rfl ((oK x0 (λ y => pB y eD) hG aE aJ aL ⟨160, #[], #[_], rfl, BT, λ R' H' hR hH y r va hA hr => by obtain ⟨_, rfl, ⟨pN, oP, pO, gB, fR, gC, rfl⟩⟩ := hA; exact (Cy y eD gB fR gC (sB.up hR) (Kf.mono hR) hr).mono λ _ _ _ ⟨h1, h2, h3⟩ => ⟨h1 ▸ rr, h2.symm, h3⟩⟩ ot).mono ?_))
   rintro _ ID _ ⟨mB, pW, vo, vp, vq, vr, vt, ou, ov, ow, ox, sC, rfl, rfl⟩
   replace sB := sB.up (H := []) mB
   refine ⟨_, (.put rfl), ⟨mB, (ku (aH sr)), ?_⟩⟩
   refine Any.vs 3 [4, 5, 6] rfl ?_
   refine Any.on 7 rfl rfl (aP.to (Ox.alloc (cs := #[iv 0, iv 0, iv 0, .slice none 0 0, .slice none 0 0, .slice none 0 0, .slice none 0 0, .map none]) rfl m4 rfl λ e7 _ _ => ⟨_, (.put rfl), ⟨rr, (ku (so (aH sr))), ?_⟩⟩))
   refine Any.on 8 rfl rfl (aP.to (Ox.bG (cs' := #[_, _, _, _, _, _, _, _]) rfl rfl rfl ej rfl (aq rfl (aq rfl (aq rfl (aq ou.one (aq ov.one (aq ow.one (aq ox.one (aq sC.one aW)))))))) .here rfl rfl rfl (.refl _) ⟨rr, (ku (so (aH sr))), ?_⟩))
   refine Any.vs 1 [9] rfl ?_
   exact Any.done (At.drop (sk (gV (sk (so sr)))) (OX _ _ _ ⟨(cV.trans mB), e7, vo, vp, vq, vr, vt, pW, ou, ov, ow, ox, sC, rfl, ay.sub ⟨rfl, rfl, rfl, trivial⟩⟩))
  refine  (aP.to (Ox.alloc (cs := #[iv 0, iv 0, iv 0, .slice none 0 0, .slice none 0 0, .slice none 0 0, .slice none 0 0, .map none]) rfl m4 rfl λ e7 _ _ => ⟨_, (.put rfl), ⟨rr, (ku (so sr)), ?_⟩⟩))
  refine Any.cv 3 od (oK x0 (λ y => pB y eD) hG aE aJ aL ⟨160, #[], #[_], rfl, BT, λ R' H' hR hH y r va hA hr => by obtain ⟨_, rfl, ⟨pN, oP, pO, gB, fR, gC, rfl⟩⟩ := hA; exact (Cy y eD gB fR gC (sB.up hR) (Kf.mono hR) hr).mono λ _ _ _ ⟨h1, h2, h3⟩ => ⟨h1 ▸ rr, h2.symm, h3⟩⟩ ot) ?_
  rintro _ ID _ ⟨mB, pW, vo, vp, vq, vr, vt, ou, ov, ow, ox, sC, rfl, rfl⟩
  replace sB := sB.up (H := []) mB
  refine ⟨mB, (ku (aH (so sr))), ?_⟩
  refine Any.vs 3 [4, 5, 6] rfl ?_
  refine Any.on 8 rfl rfl (aP.to (Ox.bG (cs' := #[_, _, _, _, _, _, _, _]) rfl rfl rfl ej rfl (aq rfl (aq rfl (aq rfl (aq ou.one (aq ov.one (aq ow.one (aq ox.one (aq sC.one aW)))))))) (.skip .here) rfl rfl rfl (.refl _) ⟨rr, (ku (aH (so sr))), ?_⟩))
  refine Any.vs 1 [9] rfl ?_
  exact Any.done (At.drop (gV (sk (sk (so sr)))) (At.perm (Lh _ _ _) (OX _ _ _ ⟨(cV.trans mB), e7, vo, vp, vq, vr, vt, pW, ou, ov, ow, ox, sC, rfl, ay.sub ⟨rfl, rfl, rfl, trivial⟩⟩)))
 refine  (aP.to (Ox.alloc (cs := #[iv 0, iv 0, iv 0, .slice none 0 0, .slice none 0 0, .slice none 0 0, .slice none 0 0, .map none]) rfl m4 rfl λ e7 _ _ => ⟨_, (.put rfl), ⟨rr, (ku (so sr)), ?_⟩⟩))
 refine Any.cv 2 Jh (Ky x1 h1 mI) ?_
 rintro _ yH _ ⟨cV, rfl, aCf, afY, sB, Kf, rfl⟩
 replace aE := aE.mono cV
 replace aJ := aJ.mono cV
 replace aL := aL.mono cV
 replace h1 := h1.mono cV
 replace hG := hG.mono cV
 refine ⟨cV, (ku (so sr)), ?_⟩
 refine Any.cv 3 od (oK x0 (λ y => pB y eD) hG aE aJ aL ⟨160, #[], #[_], rfl, BT, λ R' H' hR hH y r va hA hr => by obtain ⟨_, rfl, ⟨pN, oP, pO, gB, fR, gC, rfl⟩⟩ := hA; exact (Cy y eD gB fR gC (sB.up hR) (Kf.mono hR) hr).mono λ _ _ _ ⟨h1, h2, h3⟩ => ⟨h1 ▸ rr, h2.symm, h3⟩⟩ ot) ?_
 rintro _ ID _ ⟨mB, pW, vo, vp, vq, vr, vt, ou, ov, ow, ox, sC, rfl, rfl⟩
 replace sB := sB.up (H := []) mB
 refine ⟨mB, (ku (aH (so sr))), ?_⟩
 refine Any.vs 3 [4, 5, 6] rfl ?_
 refine Any.on 8 rfl rfl (aP.to (Ox.bG (cs' := #[_, _, _, _, _, _, _, _]) rfl rfl rfl ej rfl (aq rfl (aq rfl (aq rfl (aq ou.one (aq ov.one (aq ow.one (aq ox.one (aq sC.one aW)))))))) (.skip .here) rfl rfl rfl (.refl _) ⟨rr, (ku (aH (so sr))), ?_⟩))
 refine Any.vs 1 [9] rfl ?_
 exact Any.done (At.drop (gV (sk (sk (so sr)))) (At.perm (Lh _ _ _) (OX _ _ _ ⟨(cV.trans mB), e7, vo, vp, vq, vr, vt, pW, ou, ov, ow, ox, sC, rfl, ay.sub ⟨rfl, rfl, rfl, trivial⟩⟩)))
theorem Ty (x0 : av) (x1 : cF) {aG aI aM : Value} (aE : az bI 5 R aG x0.au) (aJ : az CZ 1 R aI x0.Out) (aL : az bB 2 R aM x0.aU) {r : av} (hM : xF x0 x1 = some r) : aB ah 60 #[.agg #[iv x0.aD, iv x0.af.ao, iv x0.af.ax, aG, aI, aM], .agg #[iv x1.dN, iv x1.dX]] R H (λ v R' H' => aO R R' ∧ H = H' ∧ ∃ gf gh gk, az bI 5 R' gf r.au ∧ az CZ 1 R' gh r.Out ∧ az bB 2 R' gk r.aU ∧ v = .agg #[iv r.aD, iv r.af.ao, iv r.af.ax, gf, gh, gk]) := by
 unfold xF at hM
 refine aB.bk Tryz.func60 rfl (n := 14) rfl rfl λ fr cs hk => ?_
 refine sg aT ?_
 refine bx λ jk => ?_
 refine bx λ ia => ?_
 refine At.s rfl rfl (Ox.alloc (cs := #[iv 0, iv 0, iv 0, .slice none 0 0, .slice none 0 0, .slice none 0 0]) rfl nY rfl λ kH _ _ => ⟨_, (.put rfl), ?_⟩)
 refine es ?_
 obtain ⟨gZ, uF, hM⟩ := aj hM
 obtain ⟨Bi, Gd, hM⟩ := aj hM
 refine At.cut (λ R' H' st' => R = R' ∧ ∃ (tc : Value) (tM : ak), bg bB 2 47 R' tc Bi tM ∧ H' = tM ++ ((kH, .cells #[iv 0, iv 0, iv 0, .slice none 0 0, .slice none 0 0, .slice none 0 0] 28) :: (jk, .cells #[iv x0.aD, iv x0.af.ao, iv x0.af.ax, aG, aI, tc] 28) :: H) ∧ aF st' [(2, .pointer (some ⟨jk, 0, none⟩)), (4, .pointer (some ⟨kH, 0, none⟩))]) ?_ ?_
 ·rintro aGK aEQ aQx ⟨rfl, tc, tM, qp, rfl, aqM⟩
  refine At.sub aqM ?_
  refine sg aR ?_
  refine lN [_, _, _, _, _, _] 0 6 bp (List.mem_append_right _ z1) ?_
  refine At.s rfl rfl (Ox.bG (cs' := #[_, _, _, _, _, _]) rfl rfl rfl bp rfl (aq rfl (aq rfl (aq rfl (aq aE.one (aq aJ.one (aq qp.one aW)))))) (.skip .here) rfl rfl rfl (.refl _) ?_)
  refine er ?_
  refine At.fY (H2 := (kH, _) :: (jk, _) :: H) (λ X => X ++ ((kH, _) :: (jk, _) :: H)) .id rfl qp (λ aeL rW JO => ?_)
  replace aE := aE.mono rW
  replace aJ := aJ.mono rW
  obtain rfl := aa hM
  exact rt Tryz.func60 (.agg rfl bp rfl (aS.box z0) .nil) (so (so sr)) (hk _ _ _ ⟨rW, rfl, aG, aI, tc, aE, aJ, JO, rfl⟩)
 intro OZ
 refine At.draw (n := 9) (is := [0, 1, 2, 3, 4, 5, 6, 7, 8]) (many ((kH, .cells #[iv 0, iv 0, iv 0, .slice none 0 0, .slice none 0 0, .slice none 0 0] 28) :: (ia, .cells #[iv x1.dN, iv x1.dX] 47) :: (jk, .cells #[iv x0.aD, iv x0.af.ao, iv x0.af.ax, aG, aI, aM] 28) :: H) [(8, (kH, .cells #[iv 0, iv 0, iv 0, .slice none 0 0, .slice none 0 0, .slice none 0 0] 28) :: (ia, .cells #[iv x1.dN, iv x1.dX] 47) :: H)]) mixed rfl (by decide +kernel) rfl rfl ?_
 refine Any.vs 1 [1] rfl ?_
 refine ts 2 [3, 6, 7, 8] rfl (aN rfl (bf (su (so (so sr))))) (su (so (so sr))) (λ R' H' hR hS => Ox.bu rfl rfl fu ((aS.box (hS _ z0)).one (j := 5) rfl) rfl (.one rfl) ⟨rfl, rfl, rfl⟩) ?_
 refine ts 4 [5, 6, 7, 8] rfl (aN rfl (bf (su (so (sk (so sr)))))) (su (so (sk (so sr)))) (λ R' H' hR hS => Ox.ck (vs := [_, _]) rfl rfl rM rfl ((aS.box (hS _ z0)).part (j := 0) (n := 2) rfl) rfl (.one rfl) ⟨rfl, rfl, rfl⟩) ?_
 refine tw 0 5 ?_ ?_
 ·refine  (aP.to (Ox.buildSlice (cells := #[]) rfl qb rfl (by decide) Na bD rfl λ j9 _ _ => ⟨_, (.put rfl), ⟨rr, (bL rfl (su (so sr))), ?_⟩⟩))
  refine tw 3 5 ?_ ?_
  ·refine  (aP.to (Ox.append (K := bB) (λ X => X ++ ((kH, _) :: (ia, _) :: (jk, _) :: H)) rfl rfl rfl oY Tryz.underlying26 (by simp) .id (bg.lit (aK.le aK.nil rfl) rfl) aL.arg uF rfl λ acJ VL Fi => ⟨_, (.put rfl), ⟨rr, (bL rfl (su (aH sr))), ?_⟩⟩))
   refine Any.on 5 rfl rfl (aP.to (Ox.buildSlice (cells := #[_, _]) rfl qb rfl (by decide) vT (bq rfl rfl rfl rfl bD) rfl λ ng _ _ => ⟨_, (.put rfl), ⟨rr, (bL rfl (su (so (aH sr)))), ?_⟩⟩))
   refine Any.on 6 rfl rfl (aP.to (Ox.append (K := bB) (λ X => (ng, _) :: X ++ ((kH, _) :: (ia, _) :: (jk, _) :: H)) rfl rfl rfl oY Tryz.underlying26 (by simp) (.cons .id) Fi (dR.lit z0 (aK.le (aK.cons (x := x1) rfl rfl aK.nil) rfl) rfl) Gd rfl λ tc tM qp => ⟨_, (.put rfl), ⟨rr, (bL rfl (su (so (aH sr)))), ?_⟩⟩))
   refine Any.vs 1 [7] rfl ?_
   refine Any.on 8 rfl rfl (aP.to (Ox.cI (cs' := #[_, _, _, _, _, _]) rfl rfl rfl fu qp.one (.there (.skip (.there (.there .here)))) rfl rfl rfl (.refl _) ⟨rr, (bL rfl (su (so (aH (sk (sk (so sr))))))), ?_⟩))
   exact Any.done (At.drop (so (gV (sk (so sr)))) (OZ _ _ _ ⟨rfl, tc, tM, qp, rfl, ay.sub ⟨rfl, rfl, trivial⟩⟩))
  refine  (aP.to (Ox.buildSlice (cells := #[_, _]) rfl qb rfl (by decide) vT (bq rfl rfl rfl rfl bD) rfl λ ng _ _ => ⟨_, (.put rfl), ⟨rr, (bL rfl (su (so (so sr)))), ?_⟩⟩))
  refine Any.on 3 rfl rfl (aP.to (Ox.append (K := bB) (λ X => (ng, _) :: X ++ ((kH, _) :: (ia, _) :: (jk, _) :: H)) rfl rfl rfl oY Tryz.underlying26 (by simp) (.cons .id) (bg.lit (aK.le aK.nil rfl) rfl) aL.arg uF rfl λ acJ VL Fi => ⟨_, (.put rfl), ⟨rr, (bL rfl (su (so (aH sr)))), ?_⟩⟩))
  refine Any.on 6 rfl rfl (aP.to (Ox.append (K := bB) (λ X => (ng, _) :: X ++ ((kH, _) :: (ia, _) :: (jk, _) :: H)) rfl rfl rfl oY Tryz.underlying26 (by simp) (.cons .id) Fi (dR.lit z0 (aK.le (aK.cons (x := x1) rfl rfl aK.nil) rfl) rfl) Gd rfl λ tc tM qp => ⟨_, (.put rfl), ⟨rr, (bL rfl (su (so (aH sr)))), ?_⟩⟩))
  refine Any.vs 1 [7] rfl ?_
  refine Any.on 8 rfl rfl (aP.to (Ox.cI (cs' := #[_, _, _, _, _, _]) rfl rfl rfl fu qp.one (.there (.skip (.there (.there .here)))) rfl rfl rfl (.refl _) ⟨rr, (bL rfl (su (so (aH (sk (sk (so sr))))))), ?_⟩))
  exact Any.done (At.drop (so (gV (sk (so sr)))) (OZ _ _ _ ⟨rfl, tc, tM, qp, rfl, ay.sub ⟨rfl, rfl, trivial⟩⟩))
 refine  (aP.to (Ox.buildSlice (cells := #[_, _]) rfl qb rfl (by decide) vT (bq rfl rfl rfl rfl bD) rfl λ ng _ _ => ⟨_, (.put rfl), ⟨rr, (bL rfl (su (so sr))), ?_⟩⟩))
 refine Any.on 0 rfl rfl (aP.to (Ox.buildSlice (cells := #[]) rfl qb rfl (by decide) Na bD rfl λ j9 _ _ => ⟨_, (.put rfl), ⟨rr, (bL rfl (su (so (so sr)))), ?_⟩⟩))
 refine Any.on 3 rfl rfl (aP.to (Ox.append (K := bB) (λ X => X ++ ((ng, _) :: (kH, _) :: (ia, _) :: (jk, _) :: H)) rfl rfl rfl oY Tryz.underlying26 (by simp) .id (bg.lit (aK.le aK.nil rfl) rfl) aL.arg uF rfl λ acJ VL Fi => ⟨_, (.put rfl), ⟨rr, (bL rfl (su (aH (so sr)))), ?_⟩⟩))
 refine Any.on 6 rfl rfl (aP.to (Ox.append (K := bB) (λ X => X ++ ((ng, _) :: (kH, _) :: (ia, _) :: (jk, _) :: H)) rfl rfl rfl oY Tryz.underlying26 (by simp) .id Fi (dR.lit (List.mem_append_right _ z0) (aK.le (aK.cons (x := x1) rfl rfl aK.nil) rfl) rfl) Gd rfl λ tc tM qp => ⟨_, (.put rfl), ⟨rr, (bL rfl (su (aH (so sr)))), ?_⟩⟩))
 refine Any.vs 1 [7] rfl ?_
 refine Any.on 8 rfl rfl (aP.to (Ox.cI (cs' := #[_, _, _, _, _, _]) rfl rfl rfl fu qp.one (.skip (.there (.there (.there .here)))) rfl rfl rfl (.refl _) ⟨rr, (bL rfl (su (aH (so (sk (sk (so sr))))))), ?_⟩))
 exact Any.done (At.drop (gV (so (sk (so sr)))) (OZ _ _ _ ⟨rfl, tc, tM, qp, rfl, ay.sub ⟨rfl, rfl, trivial⟩⟩))
theorem ay7 (x0 : av) (x1 : Int) {aG aI aM : Value} (aE : az bI 5 R aG x0.au) (aJ : az CZ 1 R aI x0.Out) (aL : az bB 2 R aM x0.aU) {r : av} (hM : m64 x0 x1 = some r) : aB ah 64 #[.agg #[iv x0.aD, iv x0.af.ao, iv x0.af.ax, aG, aI, aM], iv x1] R H (λ v R' H' => aO R R' ∧ H = H' ∧ ∃ gf gh gk, az bI 5 R' gf r.au ∧ az CZ 1 R' gh r.Out ∧ az bB 2 R' gk r.aU ∧ v = .agg #[iv r.aD, iv r.af.ao, iv r.af.ax, gf, gh, gk]) := by
 unfold m64 at hM
 refine aB.bk Tryz.func64 rfl (n := 14) rfl rfl λ fr cs hk => ?_
 refine sg aR ?_
 refine bx λ j8 => ?_
 refine At.s rfl rfl (Ox.alloc (cs := #[iv 0, iv 0, iv 0, .slice none 0 0, .slice none 0 0, .slice none 0 0]) rfl nY rfl λ g9 _ _ => ⟨_, (.put rfl), ?_⟩)
 refine nx iG ?_
 refine At.s rfl rfl (Ox.buildSlice (cells := #[]) rfl cW rfl (by decide) M9 bD rfl λ jk _ _ => ⟨_, (.put rfl), ?_⟩)
 refine vs 1 ?_
 refine ld 4 cO z2 ?_
 obtain ⟨gY, sA, hM⟩ := aj hM
 refine At.s rfl rfl (Ox.append (K := CZ) (λ X => X ++ ((g9, _) :: (j8, _) :: H)) rfl rfl rfl iZ Tryz.underlying25 (by simp) .id (bg.lit (aK.le aK.nil rfl) rfl) aJ.arg sA rfl λ aQU aFd aoF => ⟨_, (.put rfl), ?_⟩)
 refine vs 1 ?_
 refine At.s rfl rfl (Ox.buildSlice (cells := #[_]) rfl cW rfl (by decide) en (bq rfl rfl rfl rfl bD) rfl λ kH _ _ => ⟨_, (.put rfl), ?_⟩)
 obtain ⟨eE, ot, hM⟩ := aj hM
 refine At.s rfl rfl (Ox.append (K := CZ) (λ X => (kH, _) :: X ++ ((g9, _) :: (j8, _) :: H)) rfl rfl rfl iZ Tryz.underlying25 (by simp) (.cons .id) aoF (dR.lit z0 (aK.le (aK.cons (x := x1) rfl rfl aK.nil) rfl) rfl) ot rfl λ Uu pW Cc => ⟨_, (.put rfl), ?_⟩)
 refine vs 1 ?_
 refine At.s rfl rfl (Ox.cI (cs' := #[_, _, _, _, _, _]) rfl rfl rfl cO Cc.one (.there (.skip (.there .here))) rfl rfl rfl (.refl _) ?_)
 refine nx aR ?_
 refine At.s rfl rfl (Ox.ck (vs := [_, _, _, _, _, _]) rfl rfl bp rfl ((aS.box (.tail _ (List.mem_append_right _ z1))).part (j := 0) (n := 6) rfl) rfl (.put rfl) ?_)
 refine At.s rfl rfl (Ox.bG (cs' := #[_, _, _, _, _, _]) rfl rfl rfl bp rfl (aq rfl (aq rfl (aq rfl (aq aE.one (aq Cc.one (aq aL.one aW)))))) (.there (.skip .here)) rfl rfl rfl (.refl _) ?_)
 refine er ?_
 refine At.fY (H2 := (kH, _) :: (g9, _) :: (j8, _) :: H) (λ X => (kH, _) :: X ++ ((g9, _) :: (j8, _) :: H)) (.cons .id) rfl Cc (λ V2 lE B9 => ?_)
 replace aE := aE.mono lE
 replace aL := aL.mono lE
 obtain rfl := aa hM
 exact rt Tryz.func64 (.agg rfl bp rfl (aS.box z1) .nil) (so (so (so sr))) (hk _ _ _ ⟨lE, rfl, aG, Uu, aM, aE, B9, aL, rfl⟩)
theorem axL (x0 : bn) (x1 : cR) (x2 : (List Int)) {jZ iW j0 x5 x6 v2 : Value} {b1 b2 : Nat} (ga : x0.weights.length = 5) (cK : aS R H b1 0 [iv x1.book.aD, iv x1.book.af.ao, iv x1.book.af.ax, jZ, iW, j0, x5, x6]) (lA : az bI 5 R jZ x1.book.au) (lB : az CZ 1 R iW x1.book.Out) (lC : az bB 2 R j0 x1.book.aU) (_ : az fM 6 R x5 x1.dI) (_ : m8 R x6 x1.nR) (bC : aS R H b2 0 [v2]) (h2 : az CZ 1 R v2 x2) {r : Int} (hM : Cv x0 x1 x2 = some r) : aB ah 137 #[.agg (List.toArray ([iv x0.fq] ++ (x0.weights.map (Value.int .i64) ++ []))), .pointer (some ⟨b1, 0, none⟩), .pointer (some ⟨b2, 0, none⟩)] R H (λ v R' H' => R = R' ∧ H = H' ∧ v = iv r) := by
 unfold Cv at hM
 refine aB.bk Tryz.func137 rfl (n := 12) rfl rfl λ fr cs hk => ?_
 refine sg aR ?_
 refine bx λ Es => ?_
 refine vs 1 ?_
 refine es ?_
 refine At.dw eK mixed ?_
 refine Any.vs 1 [0] rfl ?_
 refine Any.tk 1 rfl pp (λ R' H' hR hS => Ox.ck (vs := [_, _, _, _, _, _]) rfl rfl dS rfl (((cK.le hR).sub (λ p h => hS p ((su (so sr)) p h))).part (j := 0) (n := 6) rfl) rfl (.one rfl) ⟨rfl, rfl, rfl⟩) ?_
 refine Any.tk 2 rfl pp (λ R' H' hR hS => Ox.ck (vs := _) rfl rfl eG (by simp [ga]) ((aS.box (hS _ z0)).part (j := 0) (n := 6) (ee (by simp [ga]))) rfl (.one rfl) ⟨rfl, rfl, rfl⟩) ?_
 refine Any.tk 3 rfl pp (λ R' H' hR hS => Ox.p9 (z := (List.toArray ([] ++ ([false, false, false, false, false].map Value.bool ++ [])))) rfl pZ rfl (.one rfl) ⟨rfl, rfl, rfl⟩) ?_
 refine Any.tk 4 rfl pp (λ R' H' hR hS => Ox.bu rfl rfl cO (((bC.le hR).sub (λ p h => hS p ((su (so sr)) p h))).one (j := 0) rfl) rfl (.one rfl) ⟨rfl, rfl, rfl⟩) ?_
 obtain ⟨gm, qw, hM⟩ := aj hM
 refine Any.cv 5 fX (gb [false, false, false, false, false] x2 rfl h2.rd qw) ?_
 rintro _ _ _ ⟨rfl, rfl, Kv, rfl⟩
 refine kp ?_
 obtain ⟨fB, mH, hM⟩ := aj hM
 refine Any.cv 6 vU (w7 x1.book x0 gm lA lB lC ga Kv mH) ?_
 rintro _ _ _ ⟨rfl, rfl, rfl⟩
 refine kp ?_
 refine Any.vs 1 [7] rfl ?_
 refine Any.done ?_
 obtain rfl := aa hM
 exact rt Tryz.func137 (.tmp rfl .nil) (so sr) (hk _ _ _ ⟨rfl, rfl, rfl⟩)
theorem azb (x0 : av) (x1 : (List Int)) {aG aI aM v1 : Value} (hG : fG R) (aE : az bI 5 R aG x0.au) (aJ : az CZ 1 R aI x0.Out) (aL : az bB 2 R aM x0.aU) (h1 : az CZ 1 R v1 x1) {r : (Reach × Int)} (hM : CR x0 x1 = some r) : aB ah 71 #[.agg #[iv x0.aD, iv x0.af.ao, iv x0.af.ax, aG, aI, aM], v1] R H (λ v R' H' => aO R R' ∧ H = H' ∧ v = .tuple #[.agg #[iv r.1.ao, iv r.1.ax], iv r.2]) := by
 unfold CR at hM
 refine aB.bk Tryz.func71 rfl (n := 33) rfl rfl λ fr cs hk => ?_
 refine sg bw ?_
 refine bx λ ng => ?_
 refine At.s rfl rfl (Ox.tW rfl rfl h1.cells rfl λ eS _ _ => ⟨_, (.put rfl), ?_⟩)
 refine At.s rfl rfl (Ox.alloc (cs := #[iv 0, iv 0]) rfl Bq rfl λ oZ _ _ => ⟨_, (.put rfl), ?_⟩)
 refine vs 1 ?_
 refine es ?_
 obtain ⟨mX, Ch, hM⟩ := aj hM
 obtain ⟨e8, zM, hM⟩ := aj hM
 refine At.cut (λ R' H' st' => aO R R' ∧ ∃ (gw : Nat) (q5 : Value) (q6 : Value) (q7 : Value) (q8 : Value) (q9 : Value) (tO : ak), az bI 5 R' q5 e8.1.book.au ∧ az CZ 1 R' q6 e8.1.book.Out ∧ az bB 2 R' q7 e8.1.book.aU ∧ az fM 6 R' q8 e8.1.dI ∧ l8 q9 e8.1.nR tO ∧ H' = (gw, .cells #[iv e8.1.book.aD, iv e8.1.book.af.ao, iv e8.1.book.af.ax, q5, q6, q7, q8, q9] 106) :: tO ++ ((oZ, .cells #[iv 0, iv 0] 23) :: (eS, .cells #[v1] 25) :: H) ∧ aF st' [(3, .pointer (some ⟨eS, 0, none⟩)), (4, .pointer (some ⟨oZ, 0, none⟩)), (6, .pointer (some ⟨gw, 0, none⟩)), (7, iv e8.2)]) ?_ ?_
 ·rintro aGL aER aQy ⟨OG, gw, q5, q6, q7, q8, q9, tO, oy, oz, oA, oB, sE, rfl, aqN⟩
  refine At.sub aqN ?_
  replace h1 := h1.mono OG
  refine sq ?_
  refine sg aR ?_
  refine vs 2 ?_
  refine er ?_
  refine sc hM (λ zD hM => ?_) (λ zD hM => ?_)
  ·refine sg bw ?_
   refine At.s rfl rfl (Ox.build (cells := #[_, _]) rfl Le rfl bD rfl (.put rfl) ?_)
   refine vs 1 ?_
   refine At.s rfl rfl (Ox.bG (cs' := #[_, _]) rfl rfl rfl fW rfl (aq rfl (aq rfl aW)) (.there (.skip .here)) rfl rfl rfl (.refl _) ?_)
   refine vs 1 ?_
   refine er ?_
   obtain rfl := aa hM
   exact rt Tryz.func71 (.agg rfl fW rfl (aS.box (.tail _ (List.mem_append_right _ z0))) (.tmp rfl .nil)) (so (aH (so (so sr)))) (hk _ _ _ ⟨OG, rfl, rfl⟩)
  refine sp ?_
  refine sg bw ?_
  refine lN [_, _, _, _, _, _, _, _] 0 8 ej z0 ?_
  refine At.s rfl rfl (Ox.makeFunc (vs := #[]) (us := #[_, _]) rfl rfl rfl rfl (.put rfl) ?_)
  refine At.EM (H2 := (gw, _) :: (oZ, _) :: (eS, _) :: H) (λ X => (gw, _) :: X ++ ((oZ, _) :: (eS, _) :: H)) (.cons .id) rfl sE (λ aeM qg JP => ?_)
  replace h1 := h1.mono qg
  replace oy := oy.mono qg
  replace oz := oz.mono qg
  replace oA := oA.mono qg
  replace oB := oB.mono qg
  obtain ⟨eL, oC, hM⟩ := aj hM
  refine At.cv XD (aaO e8.1 (λ y => Cv y e8.1 x1) oy oz oA oB JP ⟨137, #[], #[_, _], rfl, agH, λ R' H' hR hH y r va hA hr => by obtain ⟨_, rfl, ⟨Ac, rfl⟩⟩ := hA; exact (axL y e8.1 x1 Ac (aS.box (hH _ z0)) (oy.mono hR) (oz.mono hR) (oA.mono hR) (oB.mono hR) (JP.mono hR) (aS.box (hH _ z2)) (h1.mono hR) hr).mono λ _ _ _ ⟨h1, h2, h3⟩ => ⟨h1 ▸ rr, h2.symm, h3⟩⟩ oC) ?_
  rintro aRe IG _ ⟨rY, rfl, _, SC, rfl⟩
  refine vs 1 ?_
  refine es ?_
  refine At.draw (n := 12) (is := [0, 1, 2, 3, 4, 5, 6, 7, 8, 9, 10, 11]) (many ((gw, .cells #[iv e8.1.book.aD, iv e8.1.book.af.ao, iv e8.1.book.af.ax, q5, q6, q7, q8, q9] 106) :: (oZ, .cells #[iv 0, iv 0] 23) :: (eS, .cells #[v1] 25) :: H) [(10, (gw, .cells #[iv e8.1.book.aD, iv e8.1.book.af.ao, iv e8.1.book.af.ax, q5, q6, q7, q8, q9] 106) :: (eS, .cells #[v1] 25) :: H)]) mixed rfl (by decide +kernel) rfl rfl ?_
  refine Any.vs 1 [0] rfl ?_
  obtain ⟨rz, SD, hM⟩ := aj hM
  obtain ⟨yl, sG, hM⟩ := aj hM
  obtain ⟨aJN, aOq, _, rfl, akq, am9⟩ := SC.elem bm SD
  refine ts 1 [2, 9, 10, 11] rfl (aN rfl (bf (su (so (so (so sr)))))) (su (so (so (so sr)))) (λ R' H' hR hS => Ox.aX rfl rfl rfl am9 rfl (.one rfl) ⟨rfl, rfl, rfl⟩) ?_
  refine ts 2 [9, 10, 11] rfl (aN rfl (bf (su (so (so (so sr)))))) (su (so (so (so sr)))) (λ R' H' hR hS => Ox.bu rfl rfl aV ((akq.up hR).one (j := 0) rfl) rfl (.one rfl) ⟨rfl, rfl, rfl⟩) ?_
  refine Any.vs 2 [3, 4] rfl ?_
  refine ts 5 [6, 7, 8, 9, 10, 11] rfl (aN rfl (bf (su (so (so (so sr)))))) (su (so (so (so sr)))) (λ R' H' hR hS => Ox.wW (K := CZ) (k := 1) (xs := eL) rfl rfl (SC.mono hR) Tryz.underlying25 rfl (.one rfl) ⟨rfl, rfl, rfl⟩) ?_
  refine Any.vs 1 [6] rfl ?_
  obtain ⟨aJO, aOr, _, rfl, akr, ana⟩ := SC.elem bm sG
  refine ts 7 [8, 9, 10, 11] rfl (aN rfl (bf (su (so (so (so sr)))))) (su (so (so (so sr)))) (λ R' H' hR hS => Ox.aX rfl rfl rfl ana rfl (.one rfl) ⟨rfl, rfl, rfl⟩) ?_
  refine ts 8 [9, 10, 11] rfl (aN rfl (bf (su (so (so (so sr)))))) (su (so (so (so sr)))) (λ R' H' hR hS => Ox.bu rfl rfl aV ((akr.up hR).one (j := 0) rfl) rfl (.one rfl) ⟨rfl, rfl, rfl⟩) ?_
  refine ts 9 [10, 11] rfl (aN rfl (bf (su (so (so (so sr)))))) (su (so (so (so sr)))) (λ R' H' hR hS => Ox.build (cells := #[_, _]) rfl Le rfl (bq rfl rfl rfl rfl (bq rfl rfl rfl rfl bD)) rfl (.one rfl) ⟨rfl, rfl, rfl⟩) ?_
  refine Any.on 10 rfl rfl (aP.to (Ox.bG (cs' := #[_, _]) rfl rfl rfl fW rfl (aq rfl (aq rfl aW)) (.there .here) rfl rfl rfl (.refl _) ⟨rr, (bL rfl (su (sk (so sr)))), ?_⟩))
  refine Any.vs 1 [11] rfl ?_
  refine Any.done ?_
  obtain rfl := aa hM
  exact rt Tryz.func71 (.agg rfl fW rfl (aS.box z1) (.tmp rfl .nil)) (so (so (so sr))) (hk _ _ _ ⟨((OG.trans qg).trans rY), rfl, rfl⟩)
 intro O0
 refine At.dw mS mixed ?_
 refine tN 0 [_, _, _, _, _, _] 0 6 bp z2 ?_
 refine tl 1 0 cO z1 ?_
 refine tw 2 7 ?_ ?_
 ·refine  (Ox.cD rfl rfl rfl rfl Jh rfl rfl ((Ky x1 h1 Ch).mono ?_))
  rintro _ aeQ _ ⟨lG, rfl, aCl, af1, sD, Kg, rfl⟩
  replace aE := aE.mono lG
  replace aJ := aJ.mono lG
  replace aL := aL.mono lG
  replace h1 := h1.mono lG
  replace hG := hG.mono lG
  refine ⟨_, (.put rfl), ⟨lG, ka, ?_⟩⟩
  refine tw 3 7 ?_ ?_
  ·refine  (Ox.cD rfl rfl rfl rfl od rfl rfl ((oK x0 (λ y => pB y mX) hG aE aJ aL ⟨160, #[], #[_], rfl, BT, λ R' H' hR hH y r va hA hr => by obtain ⟨_, rfl, ⟨pN, oP, pO, gB, fR, gC, rfl⟩⟩ := hA; exact (Cy y mX gB fR gC (sD.up hR) (Kg.mono hR) hr).mono λ _ _ _ ⟨h1, h2, h3⟩ => ⟨h1 ▸ rr, h2.symm, h3⟩⟩ zM).mono ?_))
   rintro _ MR _ ⟨jR, tO, q5, q6, q7, q8, q9, oy, oz, oA, oB, sE, rfl, rfl⟩
   replace sD := sD.up (H := []) jR
   refine ⟨_, (.put rfl), ⟨jR, (ku (aH sr)), ?_⟩⟩
   refine Any.vs 3 [4, 5, 6] rfl ?_
   refine Any.on 7 rfl rfl (aP.to (Ox.alloc (cs := #[iv 0, iv 0, iv 0, .slice none 0 0, .slice none 0 0, .slice none 0 0, .slice none 0 0, .map none]) rfl m4 rfl λ gw _ _ => ⟨_, (.put rfl), ⟨rr, (ku (so (aH sr))), ?_⟩⟩))
   refine Any.on 8 rfl rfl (aP.to (Ox.bG (cs' := #[_, _, _, _, _, _, _, _]) rfl rfl rfl ej rfl (aq rfl (aq rfl (aq rfl (aq oy.one (aq oz.one (aq oA.one (aq oB.one (aq sE.one aW)))))))) .here rfl rfl rfl (.refl _) ⟨rr, (ku (so (aH sr))), ?_⟩))
   refine Any.vs 1 [9] rfl ?_
   exact Any.done (At.drop (sk (gV (sk (sk (so sr))))) (O0 _ _ _ ⟨(lG.trans jR), gw, q5, q6, q7, q8, q9, tO, oy, oz, oA, oB, sE, rfl, ay.sub ⟨rfl, rfl, rfl, rfl, trivial⟩⟩))
  refine  (aP.to (Ox.alloc (cs := #[iv 0, iv 0, iv 0, .slice none 0 0, .slice none 0 0, .slice none 0 0, .slice none 0 0, .map none]) rfl m4 rfl λ gw _ _ => ⟨_, (.put rfl), ⟨rr, (ku (so sr)), ?_⟩⟩))
  refine Any.cv 3 od (oK x0 (λ y => pB y mX) hG aE aJ aL ⟨160, #[], #[_], rfl, BT, λ R' H' hR hH y r va hA hr => by obtain ⟨_, rfl, ⟨pN, oP, pO, gB, fR, gC, rfl⟩⟩ := hA; exact (Cy y mX gB fR gC (sD.up hR) (Kg.mono hR) hr).mono λ _ _ _ ⟨h1, h2, h3⟩ => ⟨h1 ▸ rr, h2.symm, h3⟩⟩ zM) ?_
  rintro _ MR _ ⟨jR, tO, q5, q6, q7, q8, q9, oy, oz, oA, oB, sE, rfl, rfl⟩
  replace sD := sD.up (H := []) jR
  refine ⟨jR, (ku (aH (so sr))), ?_⟩
  refine Any.vs 3 [4, 5, 6] rfl ?_
  refine Any.on 8 rfl rfl (aP.to (Ox.bG (cs' := #[_, _, _, _, _, _, _, _]) rfl rfl rfl ej rfl (aq rfl (aq rfl (aq rfl (aq oy.one (aq oz.one (aq oA.one (aq oB.one (aq sE.one aW)))))))) (.skip .here) rfl rfl rfl (.refl _) ⟨rr, (ku (aH (so sr))), ?_⟩))
  refine Any.vs 1 [9] rfl ?_
  exact Any.done (At.drop (gV (sk (sk (sk (so sr))))) (At.perm (Lh _ _ _) (O0 _ _ _ ⟨(lG.trans jR), gw, q5, q6, q7, q8, q9, tO, oy, oz, oA, oB, sE, rfl, ay.sub ⟨rfl, rfl, rfl, rfl, trivial⟩⟩)))
 refine  (aP.to (Ox.alloc (cs := #[iv 0, iv 0, iv 0, .slice none 0 0, .slice none 0 0, .slice none 0 0, .slice none 0 0, .map none]) rfl m4 rfl λ gw _ _ => ⟨_, (.put rfl), ⟨rr, (ku (so sr)), ?_⟩⟩))
 refine Any.cv 2 Jh (Ky x1 h1 Ch) ?_
 rintro _ aeQ _ ⟨lG, rfl, aCl, af1, sD, Kg, rfl⟩
 replace aE := aE.mono lG
 replace aJ := aJ.mono lG
 replace aL := aL.mono lG
 replace h1 := h1.mono lG
 replace hG := hG.mono lG
 refine ⟨lG, (ku (so sr)), ?_⟩
 refine Any.cv 3 od (oK x0 (λ y => pB y mX) hG aE aJ aL ⟨160, #[], #[_], rfl, BT, λ R' H' hR hH y r va hA hr => by obtain ⟨_, rfl, ⟨pN, oP, pO, gB, fR, gC, rfl⟩⟩ := hA; exact (Cy y mX gB fR gC (sD.up hR) (Kg.mono hR) hr).mono λ _ _ _ ⟨h1, h2, h3⟩ => ⟨h1 ▸ rr, h2.symm, h3⟩⟩ zM) ?_
 rintro _ MR _ ⟨jR, tO, q5, q6, q7, q8, q9, oy, oz, oA, oB, sE, rfl, rfl⟩
 replace sD := sD.up (H := []) jR
 refine ⟨jR, (ku (aH (so sr))), ?_⟩
 refine Any.vs 3 [4, 5, 6] rfl ?_
 refine Any.on 8 rfl rfl (aP.to (Ox.bG (cs' := #[_, _, _, _, _, _, _, _]) rfl rfl rfl ej rfl (aq rfl (aq rfl (aq rfl (aq oy.one (aq oz.one (aq oA.one (aq oB.one (aq sE.one aW)))))))) (.skip .here) rfl rfl rfl (.refl _) ⟨rr, (ku (aH (so sr))), ?_⟩))
 refine Any.vs 1 [9] rfl ?_
 exact Any.done (At.drop (gV (sk (sk (sk (so sr))))) (At.perm (Lh _ _ _) (O0 _ _ _ ⟨(lG.trans jR), gw, q5, q6, q7, q8, q9, tO, oy, oz, oA, oB, sE, rfl, ay.sub ⟨rfl, rfl, rfl, rfl, trivial⟩⟩)))
theorem azc   {r : av} (hM : GV  = some r) : aB ah 87 #[] R H (λ v R' H' => aO R R' ∧ H = H' ∧ ∃ gf gh gk, az bI 5 R' gf r.au ∧ az CZ 1 R' gh r.Out ∧ az bB 2 R' gk r.aU ∧ v = .agg #[iv r.aD, iv r.af.ao, iv r.af.ax, gf, gh, gk]) := by
 unfold GV at hM
 refine aB.bk Tryz.func87 rfl (n := 10) rfl rfl λ fr cs hk => ?_
 refine sg aQ ?_
 refine At.s rfl rfl (Ox.alloc (cs := #[iv 0, iv 0, iv 0, .slice none 0 0, .slice none 0 0, .slice none 0 0]) rfl nY rfl λ g9 _ _ => ⟨_, (.put rfl), ?_⟩)
 refine nx mS ?_
 obtain ⟨dW, uE, hM⟩ := aj hM
 refine At.cv N0 (Tz 20 21  uE) ?_
 rintro _ _ _ ⟨rfl, rfl, rfl⟩
 refine At.s rfl rfl (Ox.build (cells := #[_, _, _, _, _]) rfl Uh rfl (bq rfl rfl rfl rfl (bq rfl rfl rfl rfl (bq rfl rfl rfl rfl bD))) rfl (.put rfl) ?_)
 obtain ⟨gY, sA, hM⟩ := aj hM
 refine At.cv DQ (DU 30  sA) ?_
 rintro _ _ _ ⟨rfl, rfl, rfl⟩
 refine At.s rfl rfl (Ox.build (cells := #[_, _, _, _, _]) rfl Uh rfl (bq rfl rfl rfl rfl (bq rfl rfl rfl rfl (bq rfl rfl rfl rfl bD))) rfl (.put rfl) ?_)
 obtain ⟨eD, mI, hM⟩ := aj hM
 refine At.cv DQ (DU 10  mI) ?_
 rintro _ _ _ ⟨rfl, rfl, rfl⟩
 refine At.s rfl rfl (Ox.buildSlice (cells := #[_]) rfl cW rfl (by decide) en (bq rfl rfl rfl rfl bD) rfl λ j9 _ _ => ⟨_, (.put rfl), ?_⟩)
 refine At.s rfl rfl (Ox.build (cells := #[_, _, _, _, _]) rfl Uh rfl (bq rfl rfl rfl rfl (bq rfl rfl rfl rfl (bq rfl rfl rfl rfl (bq rfl rfl rfl rfl bD)))) rfl (.put rfl) ?_)
 refine At.qd (K := CZ) (k := 1) (H2 := (g9, _) :: H) (λ X => X ++ ((g9, _) :: H)) .id rfl (aK.le (aK.cons (x := 0) rfl rfl aK.nil) rfl) rfl (λ aG4 ai8 akW => ?_)
 refine At.s rfl rfl (Ox.buildSlice (cells := #[_, _, _, _, _, _, _, _, _, _, _, _, _, _, _]) rfl ND rfl (by decide) afP (bq (cells' := #[_, _, _, _, _, _, _, _, _, _, _, _, _, _, _]) rfl rfl rfl rfl (bq (cells' := #[_, _, _, _, _, _, _, _, _, _, _, _, _, _, _]) rfl rfl rfl rfl (bq (cells' := #[_, _, _, _, _, _, _, _, _, _, _, _, _, _, _]) rfl rfl rfl rfl bD))) rfl λ e7 _ _ => ⟨_, (.put rfl), ?_⟩)
 refine At.s rfl rfl (Ox.build (cells := #[_, _, _, _, _, _]) rfl rI rfl (bq rfl rfl rfl rfl (bq rfl rfl rfl rfl bD)) rfl (.put rfl) ?_)
 refine At.s rfl rfl (Ox.bG (cs' := #[_, _, _, _, _, _]) rfl rfl rfl bp rfl (aq rfl (aq rfl (aq rfl (aq rfl (aq rfl (aq rfl aW)))))) (.there .here) rfl rfl rfl (.refl _) ?_)
 refine er ?_
 refine At.qd (K := bI) (k := 5) (H2 := (g9, _) :: H) (λ X => X ++ ((g9, _) :: H)) .id rfl (aK.le (aK.cons (x := (⟨⟨#[103, 117, 110]⟩, (-3), ⟨dW.ao, dW.ax⟩, []⟩ : cG)) ⟨_, az.nil, rfl⟩ rfl (aK.cons (x := (⟨⟨#[99, 104, 101, 115, 116]⟩, 2, ⟨gY.ao, gY.ax⟩, []⟩ : cG)) ⟨_, az.nil, rfl⟩ rfl (aK.cons (x := (⟨⟨#[97, 110, 99, 104, 111, 114]⟩, 1, ⟨eD.ao, eD.ax⟩, [0]⟩ : cG)) ⟨_, akW, rfl⟩ rfl aK.nil))) rfl) rfl (λ aeK EV Pj => ?_)
 obtain rfl := aa hM
 exact rt Tryz.func87 (.agg rfl bp rfl (aS.box z0) .nil) (so sr) (hk _ _ _ ⟨(ai8.trans EV), rfl, .slice (some ⟨e7, 0, none⟩) 3 3, .slice none 0 0, .slice none 0 0, Pj, az.nil, az.nil, rfl⟩)
theorem aa1 (x0 : (List Int)) (x1 : (List Int)) {v0 v1 : Value} (h0 : bV CZ 1 R H v0 x0) (h1 : bV CZ 1 R H v1 x1) {r : Bool} (hM : AA x0 x1 = some r) : aB ah 55 #[v0, v1] R H (λ v R' H' => R = R' ∧ H = H' ∧ v = .bool r) := by
 unfold AA at hM
 refine aB.bk Tryz.func55 rfl (n := 36) rfl rfl λ fr cs hk => ?_
 refine sg aQ ?_
 refine vs 1 ?_
 refine es ?_
 refine sg aQ ?_
 refine vs 1 ?_
 refine er ?_
 refine At.block ?_
 refine At.eR hM (λ (mU : Int) R' H' st' => R = R' ∧ H = H' ∧ aF st' [(0, v0), (1, v1), (5, iv mU)]) (λ (K2 : Unit) R' H' st' => R = R' ∧ H = H' ∧ aF st' []) 0 rfl ⟨rfl, rfl, ay.sub ⟨rfl, rfl, rfl, trivial⟩⟩ ?_ ?_
 rotate_right
 ·rintro mU V0 H69 aP5 ⟨rfl, rfl, aqk⟩ DL hM MZ Oc abk
  refine At.sub aqk ?_
  refine sq ?_
  refine sg bw ?_
  refine vs 2 ?_
  refine lr h1 Tryz.underlying25 ?_
  refine vs 1 ?_
  refine er ?_
  refine sc hM (λ Fx hM => ?_) (λ Fx hM => ?_)
  ·refine sp ?_
   refine sq ?_
   refine At.block ?_
   refine sq ?_
   refine sq ?_
   refine At.eZ hM (λ (KP : Bool) R' H' st' => R = R' ∧ H = H' ∧ aF st' [(0, v0), (1, v1), (5, iv mU), (26, .bool KP)])  ?_ ?_
   rotate_right
   ·intro vu hM XR
    refine At.dw xL mixed ?_
    refine Any.vs 2 [0, 1] rfl ?_
    refine Any.tk 2 rfl pp (λ R' H' hR hS => Ox.S2 (K := CZ) (k := 1) (xs := x0) rfl rfl (h0.le hR) Tryz.underlying25 rfl (.one rfl) ⟨rfl, rfl, rfl⟩) ?_
    refine Any.vs 2 [3, 4] rfl ?_
    refine bA hM (λ Fy hM => ?_) (λ Fy hM => ?_)
    ·refine Any.known (t := 16) rfl Fy ?_
     refine Any.vs 10 [5, 6, 7, 8, 9, 10, 11, 12, 13, 14] rfl ?_
     refine Any.done ?_
     exact XR _ (aa hM).symm _ _ _ ⟨rfl, rfl, ay.sub ⟨rfl, rfl, rfl, rfl, trivial⟩⟩
    refine Any.known (t := 16) rfl Fy ?_
    refine Any.vs 2 [5, 6] rfl ?_
    obtain ⟨A3, RV, hM⟩ := aj hM
    obtain ⟨LJ, as4, hM⟩ := aj hM
    obtain ⟨aIx, aNw, _, rfl, ajy, alW⟩ := h0.elem bm RV
    refine Any.tk 7 rfl pp (λ R' H' hR hS => Ox.aX rfl rfl rfl alW rfl (.one rfl) ⟨rfl, rfl, rfl⟩) ?_
    refine Any.tk 8 rfl pp (λ R' H' hR hS => Ox.bu rfl rfl aV (((ajy.le hR).sub (λ p h => hS p (pp p h))).one (j := 0) rfl) rfl (.one rfl) ⟨rfl, rfl, rfl⟩) ?_
    refine Any.vs 2 [9, 10] rfl ?_
    obtain ⟨aIy, aNx, _, rfl, ajz, alX⟩ := h1.elem bm as4
    refine Any.tk 11 rfl pp (λ R' H' hR hS => Ox.aX rfl rfl rfl alX rfl (.one rfl) ⟨rfl, rfl, rfl⟩) ?_
    refine Any.tk 12 rfl pp (λ R' H' hR hS => Ox.bu rfl rfl aV (((ajz.le hR).sub (λ p h => hS p (pp p h))).one (j := 0) rfl) rfl (.one rfl) ⟨rfl, rfl, rfl⟩) ?_
    refine Any.vs 2 [13, 14] rfl ?_
    refine Any.done ?_
    exact XR _ (aa hM).symm _ _ _ ⟨rfl, rfl, ay.sub ⟨rfl, rfl, rfl, rfl, trivial⟩⟩
   rintro KP aFn aDq aON ⟨rfl, rfl, ao1⟩ hM
   refine At.sub ao1 ?_
   refine sc hM (λ QD hM => ?_) (λ QD hM => ?_)
   ·refine sg aQ ?_
    refine vs 1 ?_
    refine er ?_
    replace hM := abk _ (aa hM).symm
    obtain rfl := aa hM
    exact rt Tryz.func55 (.tmp rfl .nil) sr (hk _ _ _ ⟨rfl, rfl, rfl⟩)
   refine sp ?_
   refine sq ?_
   refine At.dw iG mixed ?_
   refine Any.vs 2 [0, 1] rfl ?_
   obtain ⟨vF, J9, hM⟩ := aj hM
   obtain ⟨DX, RX, hM⟩ := aj hM
   obtain ⟨afS, azY, _, rfl, O3, Pq⟩ := h0.elem bm J9
   refine Any.tk 2 rfl pp (λ R' H' hR hS => Ox.aX rfl rfl rfl Pq rfl (.one rfl) ⟨rfl, rfl, rfl⟩) ?_
   refine Any.tk 3 rfl pp (λ R' H' hR hS => Ox.bu rfl rfl aV (((O3.le hR).sub (λ p h => hS p (pp p h))).one (j := 0) rfl) rfl (.one rfl) ⟨rfl, rfl, rfl⟩) ?_
   refine Any.vs 2 [4, 5] rfl ?_
   obtain ⟨afT, aNz, _, rfl, Y6, Pr⟩ := h1.elem bm RX
   refine Any.tk 6 rfl pp (λ R' H' hR hS => Ox.aX rfl rfl rfl Pr rfl (.one rfl) ⟨rfl, rfl, rfl⟩) ?_
   refine Any.tk 7 rfl pp (λ R' H' hR hS => Ox.bu rfl rfl aV (((Y6.le hR).sub (λ p h => hS p (pp p h))).one (j := 0) rfl) rfl (.one rfl) ⟨rfl, rfl, rfl⟩) ?_
   refine Any.vs 1 [8] rfl ?_
   refine Any.done ?_
   refine sc hM (λ aq1 hM => ?_) (λ aq1 hM => ?_)
   ·refine sg aQ ?_
    refine vs 1 ?_
    refine er ?_
    replace hM := abk _ (aa hM).symm
    obtain rfl := aa hM
    exact rt Tryz.func55 (.tmp rfl .nil) sr (hk _ _ _ ⟨rfl, rfl, rfl⟩)
   refine sp ?_
   refine At.inBlock ?_
   refine At.rg aT ?_
   refine vs 3 ?_
   refine er ?_
   exact MZ _ (aa hM).symm _ _ _ ⟨rfl, rfl, ay.sub ⟨rfl, rfl, rfl, trivial⟩⟩
  exact At.exit rfl (Oc _ (aa hM).symm _ _ _ ⟨rfl, rfl, ay.sub trivial⟩)
 rintro K2 aeH aEx aP6 ⟨rfl, rfl, aql⟩ hM
 refine At.sub aql ?_
 refine sg aQ ?_
 refine vs 1 ?_
 refine er ?_
 obtain rfl := aa hM
 exact rt Tryz.func55 (.tmp rfl .nil) sr (hk _ _ _ ⟨rfl, rfl, rfl⟩)
theorem Tv (x0 : (List Int)) (x1 : (List Int)) {v0 v1 : Value} (h0 : bV CZ 1 R H v0 x0) (h1 : bV CZ 1 R H v1 x1) {r : Bool} (hM : xA x0 x1 = some r) : aB ah 22 #[v0, v1] R H (λ v R' H' => R = R' ∧ H = H' ∧ v = .bool r) := by
 unfold xA at hM
 refine aB.bk Tryz.func22 rfl (n := 15) rfl rfl λ fr cs hk => ?_
 refine sg aQ ?_
 refine vs 1 ?_
 refine nx xK ?_
 refine vs 2 ?_
 obtain ⟨eW, ko, hM⟩ := aj hM
 refine At.cv XM (aa1 x0 x1 (h0.sub pp) (h1.sub pp) ko) ?_
 rintro _ _ _ ⟨rfl, rfl, rfl⟩
 refine vs 2 ?_
 refine bA hM (λ mE hM => ?_) (λ mE hM => ?_)
 ·refine At.kn 9 mE ?_
  refine vs 2 ?_
  obtain ⟨fB, mH, hM⟩ := aj hM
  refine At.cv XM (aa1 x1 x0 (h1.sub pp) (h0.sub pp) mH) ?_
  rintro _ _ _ ⟨rfl, rfl, rfl⟩
  refine vs 3 ?_
  refine er ?_
  obtain rfl := aa hM
  exact rt Tryz.func22 (.tmp rfl .nil) sr (hk _ _ _ ⟨rfl, rfl, rfl⟩)
 refine At.kn 9 mE ?_
 refine vs 6 ?_
 refine er ?_
 obtain rfl := aa hM
 exact rt Tryz.func22 (.tmp rfl .nil) sr (hk _ _ _ ⟨rfl, rfl, rfl⟩)
theorem CU (x0 : (List Int)) (x1 : (List Int)) {v0 v1 : Value} (h0 : bV CZ 1 R H v0 x0) (h1 : bV CZ 1 R H v1 x1) {r : Bool} (hM : qH x0 x1 = some r) : aB ah 88 #[v0, v1] R H (λ v R' H' => R = R' ∧ H = H' ∧ v = .bool r) := by
 unfold qH at hM
 refine aB.bk Tryz.func88 rfl (n := 8) rfl rfl λ fr cs hk => ?_
 refine sg aQ ?_
 refine vs 1 ?_
 refine nx bw ?_
 refine vs 2 ?_
 obtain ⟨cy, eN, hM⟩ := aj hM
 refine At.cv NV (Tv x0 x1 (h0.sub pp) (h1.sub pp) eN) ?_
 rintro _ _ _ ⟨rfl, rfl, rfl⟩
 refine vs 1 ?_
 refine er ?_
 obtain rfl := aa hM
 exact rt Tryz.func88 (.tmp rfl .nil) sr (hk _ _ _ ⟨rfl, rfl, rfl⟩)
end
end Go.Proofs.YtabamagholjdcaaGreatDoor
