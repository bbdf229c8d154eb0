/- Walks, part 2: each function computes its model. -/
import Derived.Test.YtabamagholjdcaaGreatDoorQAHuP1
namespace Go.Proofs.YtabamagholjdcaaGreatDoor
open Go.Lg Go.Proofs
set_option maxRecDepth 100000
set_option maxHeartbeats 4000000
section
variable {B : Base} {main : Bool} {ag : Jd Tryz.prog B main} {R : aI} {H : au}
theorem axQ (x0 : aq) (x1 : (List Int)) {aC aD aH v1 : Value} {b1 : Nat} (ay : aj bm 5 R aC x0.az) (aB : aj CZ 1 R aD x0.Out) (aF : aj bh 2 R aH x0.aO) (cN : aT R H b1 0 [v1]) (h1 : aj CZ 1 R v1 x1) {r : Int} (hM : BG x0 x1 = some r) : aJ ag 98 #[.agg #[iv x0.aE, iv x0.aa.an, iv x0.aa.ax, aC, aD, aH], .pointer (some ⟨b1, 0, none⟩)] R H (λ v R' H' => aN R R' ∧ H = H' ∧ v = iv r) := by
 unfold BG at hM
 refine aJ.aX Tryz.func98 rfl (n := 32) rfl rfl λ fr cs hk => ?_
 refine sg aQ ?_
 refine bx λ iN => ?_
 refine vs 1 ?_
 refine es ?_
 refine sq ?_
 obtain ⟨iW, xm, hM⟩ := ao hM
 obtain ⟨eH, mE, hM⟩ := ao hM
 refine At.cut (λ R' H' st' => aN R R' ∧ H' = (iN, .cells #[iv x0.aE, iv x0.aa.an, iv x0.aa.ax, aC, aD, aH] 102) :: H ∧ aK st' [(1, .pointer (some ⟨b1, 0, none⟩)), (2, .pointer (some ⟨iN, 0, none⟩)), (5, iv eH.2)]) ?_ ?_
 ·rintro aHn aFz aPq ⟨zA, rfl, arx⟩
  refine At.sub arx ?_
  replace ay := ay.mono zA
  replace aB := aB.mono zA
  replace h1 := h1.mono zA
  replace cN := cN.le zA
  refine sg aQ ?_
  refine vs 2 ?_
  refine er ?_
  refine sc hM (λ Ac hM => ?_) (λ Ac hM => ?_)
  ·refine sg aQ ?_
   refine vs 2 ?_
   refine er ?_
   obtain rfl := af hM
   exact rt Tryz.func98 (.tmp rfl .nil) (so sr) (hk _ _ _ ⟨zA, rfl, rfl⟩)
  refine sp ?_
  refine sq ?_
  refine sg oV ?_
  refine vs 2 ?_
  refine ld 4 bL z0 ?_
  refine ls aB Tryz.underlying25 ?_
  refine At.ld bL ((cN.sub (su (so sr))).one (j := 0) rfl) ?_
  refine ls h1 Tryz.underlying25 ?_
  refine vs 3 ?_
  refine ld 3 cK z0 ?_
  refine ls ay Tryz.underlying24 ?_
  refine vs 1 ?_
  refine er ?_
  refine sc hM (λ SQ hM => ?_) (λ SQ hM => ?_)
  ·refine sg aL ?_
   refine vs 1 ?_
   refine er ?_
   obtain rfl := af hM
   exact rt Tryz.func98 (.tmp rfl .nil) (so sr) (hk _ _ _ ⟨zA, rfl, rfl⟩)
  refine sp ?_
  refine sg aL ?_
  refine vs 1 ?_
  refine er ?_
  obtain rfl := af hM
  exact rt Tryz.func98 (.tmp rfl .nil) (so sr) (hk _ _ _ ⟨zA, rfl, rfl⟩)
 intro Qw
 refine At.dw El mixed ?_
 refine tN 0 [_, _, _, _, _, _] 0 6 ew z0 ?_
 refine Any.tk 1 rfl pp (λ R' H' hR hS => Ox.qj (z := (List.toArray ([] ++ ([false, false, false, false, false].map Value.bool ++ [])))) rfl qg rfl (.one rfl) ⟨rfl, rfl, rfl⟩) ?_
 refine Any.vs 2 [2, 3] rfl ?_
 refine tl 4 4 bL z0 ?_
 refine Any.tk 6 rfl pp (λ R' H' hR hS => Ox.bV rfl rfl bL (((cN.le hR).sub (λ p h => hS p ((su (so sr)) p h))).one (j := 0) rfl) rfl (.one rfl) ⟨rfl, rfl, rfl⟩) ?_
 refine tw 5 11 ?_ ?_
 ·refine  (Ox.dO rfl rfl rfl rfl fU rfl rfl ((fX [false, false, false, false, false] x0.Out rfl aB.rd xm).mono ?_))
  rintro _ _ _ ⟨rfl, rfl, K6, rfl⟩
  refine ⟨_, (.put rfl), ⟨rr, ka, ?_⟩⟩
  refine tw 7 11 ?_ ?_
  ·refine  (Ox.dO rfl rfl rfl rfl pe rfl rfl ((pN x0 iW x1 ay aB aF K6 h1.rd mE).mono ?_))
   rintro _ y8 _ ⟨cV, rfl, xE, rfl⟩
   replace cN := cN.le cV
   refine ⟨_, (.put rfl), ⟨cV, ka, ?_⟩⟩
   refine Any.vs 3 [8, 9, 10] rfl ?_
   refine Any.on 11 rfl rfl (aR.to (Ox.alloc (cs := (List.toArray ([] ++ ([false, false, false, false, false].map Value.bool ++ [])))) rfl j7 rfl λ jX _ _ => ⟨_, (.put rfl), ⟨rr, (ku (so sr)), ?_⟩⟩))
   refine Any.on 12 rfl rfl (aR.to (Ox.bp (cs' := _) rfl rfl rfl dc (by simp [xE]) (cr aW (cr (eM λ _ => rfl) aW)) .here (by simp) (eB (by simp [xE])) rfl (.refl _) ⟨rr, (ku (so sr)), ?_⟩))
   refine Any.vs 1 [13] rfl ?_
   exact Any.done (At.drop (so sr) (Qw _ _ _ ⟨cV, rfl, aA.sub ⟨rfl, rfl, rfl, trivial⟩⟩))
  refine  (aR.to (Ox.alloc (cs := (List.toArray ([] ++ ([false, false, false, false, false].map Value.bool ++ [])))) rfl j7 rfl λ jX _ _ => ⟨_, (.put rfl), ⟨rr, (ku (so sr)), ?_⟩⟩))
  refine Any.cv 7 pe (pN x0 iW x1 ay aB aF K6 h1.rd mE) ?_
  rintro _ y8 _ ⟨cV, rfl, xE, rfl⟩
  replace cN := cN.le cV
  refine ⟨cV, (ku (so sr)), ?_⟩
  refine Any.vs 3 [8, 9, 10] rfl ?_
  refine Any.on 12 rfl rfl (aR.to (Ox.bp (cs' := _) rfl rfl rfl dc (by simp [xE]) (cr aW (cr (eM λ _ => rfl) aW)) .here (by simp) (eB (by simp [xE])) rfl (.refl _) ⟨rr, (ku (so sr)), ?_⟩))
  refine Any.vs 1 [13] rfl ?_
  exact Any.done (At.drop (so sr) (Qw _ _ _ ⟨cV, rfl, aA.sub ⟨rfl, rfl, rfl, trivial⟩⟩))
 refine  (aR.to (Ox.alloc (cs := (List.toArray ([] ++ ([false, false, false, false, false].map Value.bool ++ [])))) rfl j7 rfl λ jX _ _ => ⟨_, (.put rfl), ⟨rr, (ku (so sr)), ?_⟩⟩))
 refine Any.cv 5 fU (fX [false, false, false, false, false] x0.Out rfl aB.rd xm) ?_
 rintro _ _ _ ⟨rfl, rfl, K6, rfl⟩
 refine ⟨rr, (ku (so sr)), ?_⟩
 refine Any.cv 7 pe (pN x0 iW x1 ay aB aF K6 h1.rd mE) ?_
 rintro _ y8 _ ⟨cV, rfl, xE, rfl⟩
 replace cN := cN.le cV
 refine ⟨cV, (ku (so sr)), ?_⟩
 refine Any.vs 3 [8, 9, 10] rfl ?_
 refine Any.on 12 rfl rfl (aR.to (Ox.bp (cs' := _) rfl rfl rfl dc (by simp [xE]) (cr aW (cr (eM λ _ => rfl) aW)) .here (by simp) (eB (by simp [xE])) rfl (.refl _) ⟨rr, (ku (so sr)), ?_⟩))
 refine Any.vs 1 [13] rfl ?_
 exact Any.done (At.drop (so sr) (Qw _ _ _ ⟨cV, rfl, aA.sub ⟨rfl, rfl, rfl, trivial⟩⟩))
theorem abr (x0 : cW) (x1 : (bu → Option Bool)) {aC aD aH ie jq v1 : Value} (_ : aj bm 5 R aC x0.book.az) (_ : aj CZ 1 R aD x0.book.Out) (_ : aj bh 2 R aH x0.book.aO) (lZ : aj fL 6 R ie x0.dR) (_ : m5 R jq x0.nL) (h1 : n4 ag R H (jR fL) VB v1 x1) {r : Int} (hM : By x0 x1 = some r) : aJ ag 100 #[.agg #[iv x0.book.aE, iv x0.book.aa.an, iv x0.book.aa.ax, aC, aD, aH, ie, jq], v1] R H (λ v R' H' => aN R R' ∧ H = H' ∧ v = iv r) := by
 unfold By at hM
 refine aJ.aX Tryz.func100 rfl (n := 29) rfl rfl λ fr cs hk => ?_
 refine sg aQ ?_
 refine bx λ o8 => ?_
 refine vs 1 ?_
 refine nx aL ?_
 refine vs 1 ?_
 refine es ?_
 refine sg bn ?_
 refine vs 1 ?_
 refine ld 6 qT z0 ?_
 refine ls lZ Tryz.underlying103 ?_
 refine vs 1 ?_
 refine er ?_
 refine At.block ?_
 refine At.c8 hM (λ (cu : (Int × Int)) R' H' st' => aN R R' ∧ H' = (o8, .cells #[iv x0.book.aE, iv x0.book.aa.an, iv x0.book.aa.ax, aC, aD, aH, ie, jq] 106) :: H ∧ aK st' [(1, v1), (2, .pointer (some ⟨o8, 0, none⟩)), (5, iv cu.1), (9, ie), (10, iv (x0.dR.length : Int)), (11, iv cu.2)]) (λ (eU : Int) R' H' st' => aN R R' ∧ H' = (o8, .cells #[iv x0.book.aE, iv x0.book.aa.an, iv x0.book.aa.ax, aC, aD, aH, ie, jq] 106) :: H ∧ aK st' [(2, .pointer (some ⟨o8, 0, none⟩)), (5, iv eU)]) 0 rfl ⟨rr, rfl, aA.sub ⟨rfl, rfl, rfl, rfl, rfl, rfl, trivial⟩⟩ ?_ ?_
 rotate_right
 ·rintro cu OH N8 UQ ⟨Fp, rfl, z8⟩ nP hM qe sv
  refine At.sub z8 ?_
  replace lZ := lZ.mono Fp
  replace h1 := h1.up Fp pp
  refine sg aL ?_
  refine vs 1 ?_
  refine es ?_
  refine sc hM (λ Gp hM => ?_) (λ Gp hM => ?_)
  ·refine sp ?_
   refine sq ?_
   refine At.block ?_
   refine sg bn ?_
   obtain ⟨rG, GM, hM⟩ := ao hM
   obtain ⟨aJ8, aM7, _, ⟨AB, rfl⟩, al3, anU⟩ := lZ.elem L7 GM
   refine At.s rfl rfl (Ox.bq rfl rfl rfl anU rfl (.put rfl) ?_)
   refine At.s rfl rfl (Ox.bP (vs := _) rfl rfl eP (by simp [AB]) (al3.any.part (j := 0) (n := 6) (eE (by simp [AB]))) rfl (.put rfl) ?_)
   refine At.s rfl rfl (Ox.alloc (cs := (List.toArray ([iv 0] ++ ([0, 0, 0, 0, 0].map (Value.int .i64) ++ [])))) rfl yo rfl λ iP _ _ => ⟨_, (.put rfl), ?_⟩)
   refine At.s rfl rfl (Ox.bp (cs' := _) rfl rfl rfl eP (by simp [AB]) (cr (ak rfl aW) (cr (eM λ _ => rfl) aW)) .here (by simp) (eB (by simp [AB])) rfl (.refl _) ?_)
   refine nx aS ?_
   refine vs 1 ?_
   refine At.s rfl rfl (Ox.bP (vs := _) rfl rfl eP (by simp [AB]) ((aT.box z0).part (j := 0) (n := 6) (eE (by simp [AB]))) rfl (.put rfl) ?_)
   obtain ⟨iX, qJ, hM⟩ := ao hM
   refine At.step rfl rfl rfl (Ox.B2 h1 rfl rfl rfl ⟨_, rfl, ⟨AB, rfl⟩⟩ qJ rfl (su (so (so sr))) ?_)
   rintro _ Xp pA rfl
   replace h1 := h1.up pA pp
   refine ⟨_, (.put rfl), ?_⟩
   refine er ?_
   refine sc hM (λ asw hM => ?_) (λ asw hM => ?_)
   ·refine At.rg aS ?_
    refine vs 3 ?_
    refine er ?_
    refine At.inBlock ?_
    refine At.rg aQ ?_
    refine vs 2 ?_
    refine er ?_
    exact At.drop (so sr) (qe _ (af hM).symm _ _ _ ⟨(Fp.trans pA), rfl, aA.sub ⟨rfl, rfl, rfl, rfl, rfl, rfl, trivial⟩⟩)
   refine sp ?_
   refine At.inBlock ?_
   refine At.rg aQ ?_
   refine vs 2 ?_
   refine er ?_
   exact At.drop (so sr) (qe _ (af hM).symm _ _ _ ⟨(Fp.trans pA), rfl, aA.sub ⟨rfl, rfl, rfl, rfl, rfl, rfl, trivial⟩⟩)
  exact At.exit rfl (sv _ (af hM).symm _ _ _ ⟨Fp, rfl, aA.sub ⟨rfl, rfl, trivial⟩⟩)
 rintro eU Ji IV L9 ⟨Ke, rfl, uJ⟩ hM
 refine At.sub uJ ?_
 replace lZ := lZ.mono Ke
 refine sq ?_
 refine sg aL ?_
 refine vs 1 ?_
 refine er ?_
 refine At.block ?_
 refine sg aQ ?_
 refine vs 2 ?_
 refine er ?_
 refine sc hM (λ Gs hM => ?_) (λ Gs hM => ?_)
 ·refine sg aL ?_
  refine vs 1 ?_
  refine er ?_
  obtain rfl := af hM
  exact rt Tryz.func100 (.tmp rfl .nil) (so sr) (hk _ _ _ ⟨Ke, rfl, rfl⟩)
 refine sg bT ?_
 refine vs 1 ?_
 refine ld 6 qT z0 ?_
 refine ls lZ Tryz.underlying103 ?_
 refine vs 2 ?_
 refine er ?_
 refine sc hM (λ Ah hM => ?_) (λ Ah hM => ?_)
 ·refine sg aL ?_
  refine vs 1 ?_
  refine er ?_
  obtain rfl := af hM
  exact rt Tryz.func100 (.tmp rfl .nil) (so sr) (hk _ _ _ ⟨Ke, rfl, rfl⟩)
 refine sp ?_
 refine At.inBlock ?_
 refine sg aL ?_
 refine vs 1 ?_
 refine er ?_
 obtain rfl := af hM
 exact rt Tryz.func100 (.tmp rfl .nil) (so sr) (hk _ _ _ ⟨Ke, rfl, rfl⟩)
theorem awJ (x0 : bu) (x1 : cW) (x2 : (List Int)) {jM iH jN x8 x9 v2 : Value} {b1 b2 : Nat} (gx : x0.weights.length = 5) (cN : aT R H b1 0 [iv x1.book.aE, iv x1.book.aa.an, iv x1.book.aa.ax, jM, iH, jN, x8, x9]) (l5 : aj bm 5 R jM x1.book.az) (k6 : aj CZ 1 R iH x1.book.Out) (l6 : aj bh 2 R jN x1.book.aO) (_ : aj fL 6 R x8 x1.dR) (_ : m5 R x9 x1.nL) (bz : aT R H b2 0 [v2]) (h2 : aj CZ 1 R v2 x2) {r : Bool} (hM : Bz x0 x1 x2 = some r) : aJ ag 101 #[.agg (List.toArray ([iv x0.fB] ++ (x0.weights.map (Value.int .i64) ++ []))), .pointer (some ⟨b1, 0, none⟩), .pointer (some ⟨b2, 0, none⟩)] R H (λ v R' H' => aN R R' ∧ H = H' ∧ v = .bool r) := by
 unfold Bz at hM
 refine aJ.aX Tryz.func101 rfl (n := 19) rfl rfl λ fr cs hk => ?_
 refine sg aQ ?_
 refine bx λ jX => ?_
 refine At.s rfl rfl (Ox.alloc (cs := #[.bool false]) rfl Vy rfl λ e6 _ _ => ⟨_, (.put rfl), ?_⟩)
 refine es ?_
 refine sg bn ?_
 refine vs 1 ?_
 refine At.s rfl rfl (Ox.bP (vs := [_, _, _, _, _, _]) rfl rfl ew rfl ((cN.sub (su (so (so sr)))).part (j := 0) (n := 6) rfl) rfl (.put rfl) ?_)
 refine At.ld bL ((bz.sub (su (so (so sr)))).one (j := 0) rfl) ?_
 obtain ⟨lI, Tn, hM⟩ := ao hM
 refine At.cv Pp (T4 x1.book x2 l5 k6 l6 h2 Tn) ?_
 rintro _ Xk _ ⟨zC, rfl, aQu, aQv, aQw, aJQ, aQx, aJR, auL, auI, auJ, auK, auN, auM, rfl⟩
 replace l5 := l5.mono zC
 replace k6 := k6.mono zC
 replace l6 := l6.mono zC
 replace cN := cN.le zC
 replace bz := bz.le zC
 refine er ?_
 refine At.block ?_
 refine At.UH (A := (jR (IU Value.bool 5))) (λ y s => qO y lI.1 lI.2 s) .ret hM rfl PE rfl rfl rfl (λ (UM : Unit) R' T H' => aN Xk R' ∧ H' = (e6, .cells #[.bool false] 4) :: (jX, .cells (List.toArray ([iv x0.fB] ++ (x0.weights.map (Value.int .i64) ++ []))) 125) :: T) (λ (ab4 : Unit) R' T H' => aN Xk R' ∧ H' = (e6, .cells #[.bool false] 4) :: T) (λ UM R0 T0 H0 q => by obtain ⟨hR, rfl⟩ := q; exact ⟨(e6, .cells #[.bool false] 4) :: (jX, .cells (List.toArray ([iv x0.fB] ++ (x0.weights.map (Value.int .i64) ++ []))) 125) :: [], by simp, λ R1 T1 h => ⟨hR.trans h, by simp⟩⟩) (λ ab4 R0 T0 H0 q => by obtain ⟨hR, rfl⟩ := q; exact ⟨(e6, .cells #[.bool false] 4) :: [], by simp, λ R1 T1 h => ⟨hR.trans h, by simp⟩⟩) (λ v Inv Hy z hY hI hz => (Ui hY lI.1 lI.2 hI auL auI auJ auK auN auM hz).mono λ _ _ _ h => ⟨h.1, h.2.1⟩) ⟨rr, rfl⟩ ?_ ?_ ?_
 ·rintro r35 UM R35 afY _ ⟨uw, rfl⟩ hM
  replace cN := cN.le uw
  refine At.inBlock ?_
  refine sg aL ?_
  refine At.s rfl rfl (Ox.cM (cs' := #[_]) rfl rfl rfl iS rfl .here rfl rfl rfl (.refl _) ?_)
  refine er ?_
  obtain rfl := af hM
  exact At.qW (.there (.there .here)) Tryz.func101 (.one rfl iS ((aT.box z0).one (j := 0) rfl) .nil) (J.drop (so (so (so sr))) (hk _ _ _ ⟨(zC.trans uw), rfl, rfl⟩))
 ·rintro r35 ab4 aGM afY _ ⟨akE, rfl⟩ hM
  obtain rfl := af hM
  exact At.qW (.there .here) Tryz.func101 (.one rfl iS ((aT.box z0).one (j := 0) rfl) .nil) (J.drop (so (so sr)) (hk _ _ _ ⟨(zC.trans akE), rfl, rfl⟩))
 rintro aPE Vp UM R35 T35 H35 l35 aLZ aKG _ alb ⟨_, rfl, ⟨G6, rfl⟩⟩ ⟨uw, rfl⟩ aot z35 hM ag8 ajt
 replace l5 := l5.mono uw
 replace k6 := k6.mono uw
 replace l6 := l6.mono uw
 replace cN := cN.le uw
 replace cN := cN.sub (List.Sublist.subset alb)
 refine At.rg aQ ?_
 refine At.s rfl rfl (Ox.alloc (cs := (List.toArray ([] ++ ([false, false, false, false, false].map Value.bool ++ [])))) rfl j7 rfl λ m9 _ _ => ⟨_, (.put rfl), ?_⟩)
 refine At.s rfl rfl (Ox.bp (cs' := _) rfl rfl rfl dc (by simp [G6]) (cr aW (cr (eM λ _ => rfl) aW)) .here (by simp) (eB (by simp [G6])) rfl (.refl _) ?_)
 refine er ?_
 refine At.beginRound rfl rfl (.there (.there (.there .here))) aot ?_
 refine At.block ?_
 refine sq ?_
 refine At.dw eC mixed ?_
 refine Any.vs 1 [0] rfl ?_
 refine Any.tk 1 rfl pp (λ R' H' hR hS => Ox.bP (vs := [_, _, _, _, _, _]) rfl rfl ew rfl (((cN.le hR).sub (λ p h => hS p ((su (so (so (so (so sr))))) p h))).part (j := 0) (n := 6) rfl) rfl (.one rfl) ⟨rfl, rfl, rfl⟩) ?_
 refine Any.vs 1 [2] rfl ?_
 refine Any.tk 3 rfl pp (λ R' H' hR hS => Ox.bP (vs := [_, _, _, _, _, _]) rfl rfl ew rfl (((cN.le hR).sub (λ p h => hS p ((su (so (so (so (so sr))))) p h))).part (j := 0) (n := 6) rfl) rfl (.one rfl) ⟨rfl, rfl, rfl⟩) ?_
 refine Any.tk 4 rfl pp (λ R' H' hR hS => Ox.bP (vs := _) rfl rfl eP (by simp [gx]) ((aT.box (hS _ z2)).part (j := 0) (n := 6) (eE (by simp [gx]))) rfl (.one rfl) ⟨rfl, rfl, rfl⟩) ?_
 refine Any.tk 5 rfl pp (λ R' H' hR hS => Ox.bP (vs := _) rfl rfl dc (by simp [G6]) ((aT.box (hS _ z0)).part (j := 0) (n := 5) (eE (by simp [G6]))) rfl (.one rfl) ⟨rfl, rfl, rfl⟩) ?_
 obtain ⟨jA, uV, hM⟩ := ao hM
 refine Any.cv 6 wO (xG x1.book x0 Vp l5 k6 l6 gx G6 uV) ?_
 rintro _ _ _ ⟨rfl, rfl, rfl⟩
 refine kp ?_
 obtain ⟨fC, sU, hM⟩ := ao hM
 refine Any.cv 7 Pq (T5 x1.book jA l5 k6 l6 sU) ?_
 rintro _ _ _ ⟨rfl, rfl, rfl⟩
 refine kp ?_
 refine Any.done ?_
 refine sc hM (λ uL hM => ?_) (λ uL hM => ?_)
 ·refine sg aL ?_
  refine At.s rfl rfl (Ox.cM (cs' := #[_]) rfl rfl rfl iS rfl (.there .here) rfl rfl rfl (.refl _) ?_)
  refine er ?_
  exact At.drop (so (sk (so sr))) (ajt _ (af hM).symm _ _ _ _ (rr) ⟨uw, rfl⟩ (.inr (.inl ⟨_, rfl, rfl⟩)))
 refine sp ?_
 refine At.inBlock ?_
 exact At.drop (so sr) (ag8 _ (af hM).symm _ _ _ (rr) ⟨uw, rfl⟩)
theorem NY (x0 : aq) (x1 : (List Int)) {aC aD aH v1 : Value} (hG : fM R) (ay : aj bm 5 R aC x0.az) (aB : aj CZ 1 R aD x0.Out) (aF : aj bh 2 R aH x0.aO) (h1 : aj CZ 1 R v1 x1) {r : (Int × Int)} (hM : tQ x0 x1 = some r) : aJ ag 23 #[.agg #[iv x0.aE, iv x0.aa.an, iv x0.aa.ax, aC, aD, aH], v1] R H (λ v R' H' => aN R R' ∧ H = H' ∧ v = .tuple #[iv r.1, iv r.2]) := by
 unfold tQ at hM
 refine aJ.aX Tryz.func23 rfl (n := 20) rfl rfl λ fr cs hk => ?_
 refine sg bn ?_
 refine bx λ jV => ?_
 refine At.s rfl rfl (Ox.uk rfl rfl h1.cells rfl λ gJ _ _ => ⟨_, (.put rfl), ?_⟩)
 refine vs 2 ?_
 refine nx gd ?_
 refine lN [_, _, _, _, _, _] 0 6 aU z1 ?_
 refine At.s rfl rfl (Ox.makeFunc (vs := #[]) (us := #[_]) rfl rfl rfl rfl (.put rfl) ?_)
 obtain ⟨ei, uS, hM⟩ := ao hM
 refine At.cv oe (oI x0 (λ y => BG y x1) hG ay aB aF ⟨98, #[], #[_], rfl, ai4, λ R' H' hR hH y r va hA hr => by obtain ⟨_, rfl, ⟨pZ, oN, p5, gv, fN, gw, rfl⟩⟩ := hA; exact (axQ y x1 gv fN gw (aT.box (hH _ z0)) (h1.mono hR) hr).mono λ _ _ _ ⟨h1, h2, h3⟩ => ⟨h1, h2.symm, h3⟩⟩ uS) ?_
 rintro _ Jk _ ⟨lf, agd, aAz, aAA, aAB, aAC, aAD, sH, sI, sJ, sK, GH, rfl, rfl⟩
 replace h1 := h1.mono lf
 refine vs 3 ?_
 refine At.s rfl rfl (Ox.alloc (cs := #[iv 0, iv 0, iv 0, .slice none 0 0, .slice none 0 0, .slice none 0 0, .slice none 0 0, .map none]) rfl mT rfl λ gm _ _ => ⟨_, (.put rfl), ?_⟩)
 refine At.s rfl rfl (Ox.bp (cs' := #[_, _, _, _, _, _, _, _]) rfl rfl rfl eK rfl (ak rfl (ak rfl (ak rfl (ak sH.one (ak sI.one (ak sJ.one (ak sK.one (ak GH.one aW)))))))) .here rfl rfl rfl (.refl _) ?_)
 refine vs 1 ?_
 refine es ?_
 refine sg aQ ?_
 refine vs 2 ?_
 refine er ?_
 refine sc hM (λ uK hM => ?_) (λ uK hM => ?_)
 ·refine sg aS ?_
  refine vs 3 ?_
  refine er ?_
  obtain rfl := af hM
  exact rt Tryz.func23 (.tmp rfl (.tmp rfl .nil)) (so (aP (so (so sr)))) (hk _ _ _ ⟨lf, rfl, rfl⟩)
 refine sp ?_
 refine sg bT ?_
 refine lN [_, _, _, _, _, _, _, _] 0 8 eK z0 ?_
 refine At.s rfl rfl (Ox.makeFunc (vs := #[]) (us := #[_, _]) rfl rfl rfl rfl (.put rfl) ?_)
 refine At.Fg (H2 := (gm, _) :: (gJ, _) :: (jV, _) :: H) (λ X => (gm, _) :: X ++ ((gJ, _) :: (jV, _) :: H)) (.cons .id) rfl GH (λ Xd k8 Cn => ?_)
 replace h1 := h1.mono k8
 replace sH := sH.mono k8
 replace sI := sI.mono k8
 replace sJ := sJ.mono k8
 replace sK := sK.mono k8
 obtain ⟨dW, mF, hM⟩ := ao hM
 refine At.cv YH (abr ei.1 (λ y => Bz y ei.1 x1) sH sI sJ sK Cn ⟨101, #[], #[_, _], rfl, aib, λ R' H' hR hH y r va hA hr => by obtain ⟨_, rfl, ⟨AE, rfl⟩⟩ := hA; exact (awJ y ei.1 x1 AE (aT.box (hH _ z0)) (sH.mono hR) (sI.mono hR) (sJ.mono hR) (sK.mono hR) (Cn.mono hR) (aT.box (hH _ z1)) (h1.mono hR) hr).mono λ _ _ _ ⟨h1, h2, h3⟩ => ⟨h1, h2.symm, h3⟩⟩ mF) ?_
 rintro _ Jl _ ⟨mj, rfl, rfl⟩
 refine vs 2 ?_
 refine er ?_
 obtain rfl := af hM
 exact rt Tryz.func23 (.tmp rfl (.tmp rfl .nil)) (so (so (so sr))) (hk _ _ _ ⟨((lf.trans k8).trans mj), rfl, rfl⟩)
theorem xI (x0 : (List Int)) {v0 : Value} (h0 : bC CZ 1 R H v0 x0) {r : List Int} (hM : rH x0 = some r) : aJ ag 125 #[v0] R H (λ v R' H' => aN R R' ∧ ∃ w Hs, aZ CZ 1 3 R' w r Hs ∧ H' = Hs ++ H ∧ v = w) := by
 rcases h0.Ur with ⟨E3, rfl, rfl⟩ | ⟨a0, n0, E3, rfl⟩
 ·have hM : some ([] : List Int) = some r := by simpa [rH, cy] using hM
  refine aJ.aX Tryz.func125 rfl (n := 8) rfl rfl λ fr cs hk => ?_
  refine sg aL ?_
  refine vs 1 ?_
  refine es ?_
  refine sg aQ ?_
  refine vs 1 ?_
  refine At.s rfl rfl (Ox.B9 rfl rfl rfl Tryz.underlying25 rfl rfl (.put rfl) ?_)
  refine er ?_
  refine At.cond_true rfl ?_
  refine sg aL ?_
  refine vs 1 ?_
  refine er ?_
  obtain rfl := af hM
  exact rt Tryz.func125 (.tmp rfl .nil) sr (hk _ _ _ ⟨(rr), .slice none 0 0, [], aZ.nil, rfl, rfl⟩)
 ·unfold rH at hM
  refine aJ.aX Tryz.func125 rfl (n := 8) rfl rfl λ fr cs hk => ?_
  refine sg aL ?_
  refine vs 1 ?_
  refine es ?_
  refine sg aQ ?_
  refine vs 1 ?_
  refine At.s rfl rfl (Ox.B9 rfl rfl rfl Tryz.underlying25 rfl rfl (.put rfl) ?_)
  refine er ?_
  refine At.cond_false rfl ?_
  refine sp ?_
  refine sg bn ?_
  refine At.s rfl rfl (Ox.buildSlice (cells := #[]) rfl ck rfl (by decide) p7 aY rfl λ cn _ _ => ⟨_, (.put rfl), ?_⟩)
  refine vs 1 ?_
  obtain ⟨cA, ff, hM⟩ := ao hM
  refine At.s rfl rfl (Ox.append (K := CZ) (λ X => X ++ (H)) rfl rfl rfl cR Tryz.underlying25 (by simp) .id (aZ.lit (aG.le aG.nil rfl) rfl) (h0.sub (su (so sr))).arg ff rfl λ Ie EH FU => ⟨_, (.put rfl), ?_⟩)
  refine vs 1 ?_
  refine er ?_
  obtain rfl := af hM
  exact rt Tryz.func125 (.tmp rfl .nil) sr (hk _ _ _ ⟨(rr), Ie, EH, FU, rfl, rfl⟩)
theorem aw1 {S : Type} {ys : (List Int) → S → Option (S × Bool)} {vY : Value} (k : Nat) : ∀ {Inv : S → aI → au → Prop} {R : aI} {Hy : au} (_ : iq ag R (EP CZ 1) vY ys Inv) (x0 : (List Int)) (x1 : (List Bool)) (x2 : aq) {s0 : S} (_ : Inv s0 R Hy) {v0 vu vv vw : Value} {b2 b3 b4 : Nat} (_ : aj CZ 1 R v0 x0) (_ : x1.length = 5) (_ : aT R [] b2 0 [iv x2.aE, iv x2.aa.an, iv x2.aa.ax, vu, vv, vw]) (_ : aj bm 5 R vu x2.az) (_ : aj CZ 1 R vv x2.Out) (_ : aj bh 2 R vw x2.aO) (_ : aT R [] b3 0 [vY]) (_ : aT R [] b4 0 [.func (.func 152) #[] #[.pointer (some ⟨b2, 0, none⟩), .pointer (some ⟨b3, 0, none⟩), .pointer (some ⟨b4, 0, none⟩)]]) {r : (S × Bool)} (_ : yy ys k x0 x1 x2 s0 = some r), aJ ag 152 #[v0, .agg (List.toArray ([] ++ (x1.map Value.bool ++ []))), .pointer (some ⟨b2, 0, none⟩), .pointer (some ⟨b3, 0, none⟩), .pointer (some ⟨b4, 0, none⟩)] R Hy (λ v R' H' => aN R R' ∧ Inv r.1 R' H' ∧ v = .bool r.2) := by
 induction k with
 | zero => intro Inv R Hy hY x0 x1 x2 s0 hI v0 vu vv vw b2 b3 b4 h0 l1 bz bX b8 b9 bK cg r hM; exact absurd hM (by simp [yy])
 | succ k ih =>
  intro Inv R Hy hY x0 x1 x2 s0 hI v0 vu vv vw b2 b3 b4 h0 l1 bz bX b8 b9 bK cg r hM
  rw [yy] at hM
  refine aJ.aX Tryz.func152 rfl (n := 39) rfl rfl λ fr cs hk => ?_
  refine sg aQ ?_
  refine bx λ cn => ?_
  refine vs 1 ?_
  refine es ?_
  obtain ⟨cA, ff, hM⟩ := ao hM
  refine At.rg bn ?_
  refine At.s rfl rfl (Ox.bP (vs := [_, _, _, _, _, _]) rfl rfl ew rfl (bz.any.part (j := 0) (n := 6) rfl) rfl (.put rfl) ?_)
  refine At.s rfl rfl (Ox.bP (vs := _) rfl rfl dc (by simp [l1]) ((aT.box z0).part (j := 0) (n := 5) (eE (by simp [l1]))) rfl (.put rfl) ?_)
  refine At.cv PL (Un x2 x1 bX b8 b9 l1 ff) ?_
  rintro MP BT _ ⟨fV, rfl, _, cQ, rfl⟩
  replace h0 := h0.mono fV
  replace bX := bX.mono fV
  replace b8 := b8.mono fV
  replace b9 := b9.mono fV
  replace hI := hY.mono (rr) fV hI
  replace bz := bz.up (H := []) fV
  replace bK := bK.up (H := []) fV
  replace cg := cg.up (H := []) fV
  replace hY := hY.up fV
  refine vs 1 ?_
  refine es ?_
  refine sg aS ?_
  refine vs 1 ?_
  refine ls cQ Tryz.underlying25 ?_
  refine vs 1 ?_
  refine er ?_
  refine sc hM (λ mC hM => ?_) (λ mC hM => ?_)
  ·refine sq ?_
   obtain ⟨fR, qE, hM⟩ := ao hM
   refine At.rg bn ?_
   refine At.ld ayg (bK.any.one (j := 0) rfl) ?_
   refine vs 1 ?_
   refine At.US rfl rfl rfl rfl rfl rfl rfl rfl ((hY.call [(cn, _)] (rr) hI h0 qE).mono ?_)
   rintro _ agN _ ⟨sC, rfl, agt, akw, P5⟩
   replace P5 : _ = (cn, _) :: agt := P5
   subst P5
   replace h0 := h0.mono sC
   replace bK := bK.up (H := []) sC
   replace hY := hY.up sC
   refine ⟨_, (.put rfl), ?_⟩
   refine vs 1 ?_
   refine er ?_
   obtain rfl := af hM
   exact rt Tryz.func152 (.tmp rfl .nil) (so sr) (hk _ _ _ ⟨(fV.trans sC), akw, rfl⟩)
  refine sp ?_
  refine sq ?_
  refine sg aS ?_
  refine vs 1 ?_
  refine ls cQ Tryz.underlying25 ?_
  refine vs 1 ?_
  refine er ?_
  refine At.block ?_
  refine At.fh hM (λ (lF : (S × Int)) R' H' st' => aN BT R' ∧ ∃ fF, Inv lF.1 R' fF ∧ H' = (cn, .cells (List.toArray ([] ++ (x1.map Value.bool ++ []))) 112) :: fF ∧ aK st' [(0, v0), (4, .pointer (some ⟨b4, 0, none⟩)), (6, .pointer (some ⟨cn, 0, none⟩)), (20, MP), (21, iv (cA.length : Int)), (22, iv lF.2)]) (λ (lC : S) R' H' st' => aN BT R' ∧ ∃ y4, Inv lC R' y4 ∧ y4 = H' ∧ aK st' []) 0 rfl ⟨rr, Hy, hI, rfl, aA.sub ⟨rfl, rfl, rfl, rfl, rfl, rfl, trivial⟩⟩ ?_ ?_
  rotate_right
  ·rintro lF R27 H27 aOg ⟨pn, fF, ez, rfl, aqk⟩ jO hM ag5 J4 aym
   refine At.sub aqk ?_
   replace h0 := h0.mono pn
   replace bX := bX.mono pn
   replace b8 := b8.mono pn
   replace b9 := b9.mono pn
   replace bz := bz.up (H := []) pn
   replace bK := bK.up (H := []) pn
   replace cg := cg.up (H := []) pn
   replace cQ := cQ.mono pn
   replace hY := hY.up pn
   refine sg aL ?_
   refine vs 1 ?_
   refine es ?_
   refine sc hM (λ Af hM => ?_) (λ Af hM => ?_)
   ·refine sp ?_
    refine sq ?_
    refine At.block ?_
    refine sq ?_
    obtain ⟨en, GL, hM⟩ := ao hM
    refine At.rg aS ?_
    obtain ⟨ahU, ayy, _, rfl, QI, Q4⟩ := cQ.elem cL GL
    refine At.s rfl rfl (Ox.bq rfl rfl rfl Q4 rfl (.put rfl) ?_)
    refine At.ld bg (QI.any.one (j := 0) rfl) ?_
    refine vs 1 ?_
    refine es ?_
    obtain ⟨iI, qH, hM⟩ := ao hM
    obtain ⟨eY, mH, hM⟩ := ao hM
    obtain ⟨di, ny, hM⟩ := ao hM
    obtain ⟨oR, sV, hM⟩ := ao hM
    refine At.cut (λ R' H' st' => aN R27 R' ∧ ∃ (fG : au), Inv oR.1 R' fG ∧ H' = (cn, .cells (List.toArray ([] ++ (x1.map Value.bool ++ []))) 112) :: fG ∧ aK st' [(0, v0), (4, .pointer (some ⟨b4, 0, none⟩)), (6, .pointer (some ⟨cn, 0, none⟩)), (20, MP), (21, iv (cA.length : Int)), (22, iv lF.2), (37, .bool (!oR.2))]) ?_ ?_
    ·rintro aHv aFH aPy ⟨qn, fG, jZ, rfl, arF⟩
     refine At.sub arF ?_
     replace h0 := h0.mono qn
     replace bX := bX.mono qn
     replace b8 := b8.mono qn
     replace b9 := b9.mono qn
     replace bz := bz.up (H := []) qn
     replace bK := bK.up (H := []) qn
     replace cg := cg.up (H := []) qn
     replace cQ := cQ.mono qn
     replace hY := hY.up qn
     refine sc hM (λ qD hM => ?_) (λ qD hM => ?_)
     ·refine sg aL ?_
      refine vs 1 ?_
      refine er ?_
      replace hM := aym _ (af hM).symm
      obtain rfl := af hM
      exact rt Tryz.func152 (.tmp rfl .nil) (so sr) (hk _ _ _ ⟨((fV.trans pn).trans qn), jZ, rfl⟩)
     refine sp ?_
     refine At.inBlock ?_
     refine At.rg aQ ?_
     refine vs 2 ?_
     refine er ?_
     exact ag5 _ (af hM).symm _ _ _ ⟨(pn.trans qn), fG, jZ, rfl, aA.sub ⟨rfl, rfl, rfl, rfl, rfl, rfl, trivial⟩⟩
    intro w7
    refine At.draw (n := 12) (is := [0, 1, 2, 3, 4, 5, 6, 7, 8, 9, 10, 11]) (λ _ => (cn, .cells (List.toArray ([] ++ (x1.map Value.bool ++ []))) 112) :: []) mixed rfl (by decide +kernel) rfl rfl ?_
    refine ts 0 [10, 11] rfl (λ _ _ _ _ _ h => h) (su (sk sn)) (λ R' H' hR hS => Ox.bV rfl rfl Uv ((cg.up hR).one (j := 0) rfl) rfl (.one rfl) ⟨rfl, rfl, rfl⟩) ?_
    refine Any.vs 2 [1, 3] rfl ?_
    refine ts 6 [9, 10, 11] rfl (λ _ _ _ _ _ h => h) (su (sk sn)) (λ R' H' hR hS => Ox.bP (vs := _) rfl rfl dc (by simp [l1]) ((aT.box (hS _ z0)).part (j := 0) (n := 5) (eE (by simp [l1]))) rfl (.one rfl) ⟨rfl, rfl, rfl⟩) ?_
    refine Any.vs 1 [7] rfl ?_
    refine Any.acG (i := 2) (j := 4) (l := 8) (ra := [4, 5, 8, 9, 10, 11]) (rb := [2, 5, 8, 9, 10, 11]) (rc := [2, 4, 5, 9, 10, 11]) rfl rfl rfl (by decide +kernel) rfl rfl rfl (by decide) rfl rfl rfl ?_ ?_ ?_
    ·refine  (Ox.dO rfl rfl rfl rfl wP rfl rfl ((xI x0 h0.rd qH).mono ?_))
     rintro Ig za _ ⟨bY, _, I8, pB, rfl, rfl⟩
     replace h0 := h0.mono bY
     replace bX := bX.mono bY
     replace b8 := b8.mono bY
     replace b9 := b9.mono bY
     replace ez := hY.mono (rr) bY ez
     replace bz := bz.up (H := []) bY
     replace bK := bK.up (H := []) bY
     replace cg := cg.up (H := []) bY
     replace cQ := cQ.mono bY
     replace hY := hY.up bY
     refine ⟨_, (.put rfl), ⟨bY, (ku (aP (sk sn))), ?_⟩⟩
     refine tw 4 8 ?_ ?_
     ·refine  (aR.to (Ox.buildSlice (cells := #[_]) rfl ck rfl (by decide) cS (bf rfl rfl rfl rfl aY) rfl λ dn _ _ => ⟨_, (.put rfl), ⟨rr, (ku (so (aP (sk sn)))), ?_⟩⟩))
      refine tw 5 8 ?_ ?_
      ·refine  (aR.to (Ox.append (K := CZ) (λ X => (dn, _) :: X ++ ((cn, _) :: fF)) rfl rfl rfl cR Tryz.underlying25 (by simp) (.cons .id) pB (cE.lit z0 (aG.le (aG.cons (x := en) rfl rfl aG.nil) rfl) rfl) mH rfl λ Bb y3 mz => ⟨_, (.put rfl), ⟨rr, (ku (so (aP (sk sn)))), ?_⟩⟩))
       refine Any.on 8 rfl rfl (aR.to (Ox.buildSlice (cells := #[_]) rfl ck rfl (by decide) cS (bf rfl rfl rfl rfl aY) rfl λ cC _ _ => ⟨_, (.put rfl), ⟨rr, (ku (so (so (aP (sk sn))))), ?_⟩⟩))
       refine Any.cv 9 fU (fX x1 [en] l1 (bC.lit z0 (aG.le (aG.cons (x := en) rfl rfl aG.nil) rfl) rfl) ny) ?_
       rintro _ _ _ ⟨rfl, rfl, mJ, rfl⟩
       refine ⟨rr, (ku (so (so (aP (sk sn))))), ?_⟩
       refine Any.dB (H2 := (cC, _) :: (dn, _) :: (cn, _) :: fF) (λ X => (cC, _) :: (dn, _) :: X ++ ((cn, _) :: fF)) (.cons (.cons .id)) rfl mz (by decide) (by decide) (λ _ => (su (so (so (sk sn))))) (λ y7 bB e9 => ?_)
       replace h0 := h0.mono bB
       replace bX := bX.mono bB
       replace b8 := b8.mono bB
       replace b9 := b9.mono bB
       replace ez := hY.mono (rr) bB ez
       replace bz := bz.up (H := []) bB
       replace bK := bK.up (H := []) bB
       replace cg := cg.up (H := []) bB
       replace cQ := cQ.mono bB
       replace hY := hY.up bB
       refine Any.on 10 rfl rfl (Ox.dO rfl rfl rfl rfl um rfl rfl ((ih (hY.frame [(cC, _), (dn, _), (cn, _)]) eY di x2 ⟨_, ez, rfl⟩ e9 mJ bz.any bX b8 b9 bK cg sV).mono ?_))
       rintro _ zb _ ⟨bw, ⟨fG, jZ, e8⟩, rfl⟩
       replace e8 : _ = (cC, _) :: (dn, _) :: (cn, _) :: fG := e8
       subst e8
       replace h0 := h0.mono bw
       replace bX := bX.mono bw
       replace b8 := b8.mono bw
       replace b9 := b9.mono bw
       replace bz := bz.up (H := []) bw
       replace bK := bK.up (H := []) bw
       replace cg := cg.up (H := []) bw
       replace e9 := e9.mono bw
       replace cQ := cQ.mono bw
       replace hY := hY.up bw
       refine ⟨_, (.put rfl), ⟨bw, (ku (so (so (sk sn)))), ?_⟩⟩
       refine Any.vs 1 [11] rfl ?_
       exact Any.done (At.drop (so (so sr)) (w7 _ _ _ ⟨((bY.trans bB).trans bw), fG, jZ, rfl, aA.sub ⟨rfl, rfl, rfl, rfl, rfl, rfl, rfl, trivial⟩⟩))
      refine  (aR.to (Ox.buildSlice (cells := #[_]) rfl ck rfl (by decide) cS (bf rfl rfl rfl rfl aY) rfl λ cC _ _ => ⟨_, (.put rfl), ⟨rr, (ku (so (so (aP (sk sn))))), ?_⟩⟩))
      refine Any.on 5 rfl rfl (aR.to (Ox.append (K := CZ) (λ X => (cC, _) :: (dn, _) :: X ++ ((cn, _) :: fF)) rfl rfl rfl cR Tryz.underlying25 (by simp) (.cons (.cons .id)) pB (cE.lit z1 (aG.le (aG.cons (x := en) rfl rfl aG.nil) rfl) rfl) mH rfl λ Bb y3 mz => ⟨_, (.put rfl), ⟨rr, (ku (so (so (aP (sk sn))))), ?_⟩⟩))
      refine Any.cv 9 fU (fX x1 [en] l1 (bC.lit z0 (aG.le (aG.cons (x := en) rfl rfl aG.nil) rfl) rfl) ny) ?_
      rintro _ _ _ ⟨rfl, rfl, mJ, rfl⟩
      refine ⟨rr, (ku (so (so (aP (sk sn))))), ?_⟩
      refine Any.dB (H2 := (cC, _) :: (dn, _) :: (cn, _) :: fF) (λ X => (cC, _) :: (dn, _) :: X ++ ((cn, _) :: fF)) (.cons (.cons .id)) rfl mz (by decide) (by decide) (λ _ => (su (so (so (sk sn))))) (λ y7 bB e9 => ?_)
      replace h0 := h0.mono bB
      replace bX := bX.mono bB
      replace b8 := b8.mono bB
      replace b9 := b9.mono bB
      replace ez := hY.mono (rr) bB ez
      replace bz := bz.up (H := []) bB
      replace bK := bK.up (H := []) bB
      replace cg := cg.up (H := []) bB
      replace cQ := cQ.mono bB
      replace hY := hY.up bB
      refine Any.on 10 rfl rfl (Ox.dO rfl rfl rfl rfl um rfl rfl ((ih (hY.frame [(cC, _), (dn, _), (cn, _)]) eY di x2 ⟨_, ez, rfl⟩ e9 mJ bz.any bX b8 b9 bK cg sV).mono ?_))
      rintro _ zb _ ⟨bw, ⟨fG, jZ, e8⟩, rfl⟩
      replace e8 : _ = (cC, _) :: (dn, _) :: (cn, _) :: fG := e8
      subst e8
      replace h0 := h0.mono bw
      replace bX := bX.mono bw
      replace b8 := b8.mono bw
      replace b9 := b9.mono bw
      replace bz := bz.up (H := []) bw
      replace bK := bK.up (H := []) bw
      replace cg := cg.up (H := []) bw
      replace e9 := e9.mono bw
      replace cQ := cQ.mono bw
      replace hY := hY.up bw
      refine ⟨_, (.put rfl), ⟨bw, (ku (so (so (sk sn)))), ?_⟩⟩
      refine Any.vs 1 [11] rfl ?_
      exact Any.done (At.drop (so (so sr)) (w7 _ _ _ ⟨((bY.trans bB).trans bw), fG, jZ, rfl, aA.sub ⟨rfl, rfl, rfl, rfl, rfl, rfl, rfl, trivial⟩⟩))
     refine  (aR.to (Ox.buildSlice (cells := #[_]) rfl ck rfl (by decide) cS (bf rfl rfl rfl rfl aY) rfl λ cC _ _ => ⟨_, (.put rfl), ⟨rr, (ku (so (aP (sk sn)))), ?_⟩⟩))
     refine Any.on 4 rfl rfl (aR.to (Ox.buildSlice (cells := #[_]) rfl ck rfl (by decide) cS (bf rfl rfl rfl rfl aY) rfl λ dn _ _ => ⟨_, (.put rfl), ⟨rr, (ku (so (so (aP (sk sn))))), ?_⟩⟩))
     refine Any.on 5 rfl rfl (aR.to (Ox.append (K := CZ) (λ X => (dn, _) :: (cC, _) :: X ++ ((cn, _) :: fF)) rfl rfl rfl cR Tryz.underlying25 (by simp) (.cons (.cons .id)) pB (cE.lit z0 (aG.le (aG.cons (x := en) rfl rfl aG.nil) rfl) rfl) mH rfl λ Bb y3 mz => ⟨_, (.put rfl), ⟨rr, (ku (so (so (aP (sk sn))))), ?_⟩⟩))
     refine Any.cv 9 fU (fX x1 [en] l1 (bC.lit z1 (aG.le (aG.cons (x := en) rfl rfl aG.nil) rfl) rfl) ny) ?_
     rintro _ _ _ ⟨rfl, rfl, mJ, rfl⟩
     refine ⟨rr, (ku (so (so (aP (sk sn))))), ?_⟩
     refine Any.dB (H2 := (dn, _) :: (cC, _) :: (cn, _) :: fF) (λ X => (dn, _) :: (cC, _) :: X ++ ((cn, _) :: fF)) (.cons (.cons .id)) rfl mz (by decide) (by decide) (λ _ => (su (so (so (sk sn))))) (λ y7 bB e9 => ?_)
     replace h0 := h0.mono bB
     replace bX := bX.mono bB
     replace b8 := b8.mono bB
     replace b9 := b9.mono bB
     replace ez := hY.mono (rr) bB ez
     replace bz := bz.up (H := []) bB
     replace bK := bK.up (H := []) bB
     replace cg := cg.up (H := []) bB
     replace cQ := cQ.mono bB
     replace hY := hY.up bB
     refine Any.on 10 rfl rfl (Ox.dO rfl rfl rfl rfl um rfl rfl ((ih (hY.frame [(dn, _), (cC, _), (cn, _)]) eY di x2 ⟨_, ez, rfl⟩ e9 mJ bz.any bX b8 b9 bK cg sV).mono ?_))
     rintro _ zb _ ⟨bw, ⟨fG, jZ, e8⟩, rfl⟩
     replace e8 : _ = (dn, _) :: (cC, _) :: (cn, _) :: fG := e8
     subst e8
     replace h0 := h0.mono bw
     replace bX := bX.mono bw
     replace b8 := b8.mono bw
     replace b9 := b9.mono bw
     replace bz := bz.up (H := []) bw
     replace bK := bK.up (H := []) bw
     replace cg := cg.up (H := []) bw
     replace e9 := e9.mono bw
     replace cQ := cQ.mono bw
     replace hY := hY.up bw
     refine ⟨_, (.put rfl), ⟨bw, (ku (so (so (sk sn)))), ?_⟩⟩
     refine Any.vs 1 [11] rfl ?_
     exact Any.done (At.drop (so (so sr)) (w7 _ _ _ ⟨((bY.trans bB).trans bw), fG, jZ, rfl, aA.sub ⟨rfl, rfl, rfl, rfl, rfl, rfl, rfl, trivial⟩⟩))
    ·refine  (aR.to (Ox.buildSlice (cells := #[_]) rfl ck rfl (by decide) cS (bf rfl rfl rfl rfl aY) rfl λ dn _ _ => ⟨_, (.put rfl), ⟨rr, (ku (so (sk sn))), ?_⟩⟩))
     refine tw 2 8 ?_ ?_
     ·refine  (Ox.dO rfl rfl rfl rfl wP rfl rfl ((xI x0 h0.rd qH).mono ?_))
      rintro Ig za _ ⟨bY, _, I8, pB, rfl, rfl⟩
      replace h0 := h0.mono bY
      replace bX := bX.mono bY
      replace b8 := b8.mono bY
      replace b9 := b9.mono bY
      replace ez := hY.mono (rr) bY ez
      replace bz := bz.up (H := []) bY
      replace bK := bK.up (H := []) bY
      replace cg := cg.up (H := []) bY
      replace cQ := cQ.mono bY
      replace hY := hY.up bY
      refine ⟨_, (.put rfl), ⟨bY, (ku (aP (so (sk sn)))), ?_⟩⟩
      refine tw 5 8 ?_ ?_
      ·refine  (aR.to (Ox.append (K := CZ) (λ X => X ++ ((dn, _) :: (cn, _) :: fF)) rfl rfl rfl cR Tryz.underlying25 (by simp) .id pB (cE.lit (List.mem_append_right _ z0) (aG.le (aG.cons (x := en) rfl rfl aG.nil) rfl) rfl) mH rfl λ Bb y3 mz => ⟨_, (.put rfl), ⟨rr, (ku (aP (so (sk sn)))), ?_⟩⟩))
       refine Any.on 8 rfl rfl (aR.to (Ox.buildSlice (cells := #[_]) rfl ck rfl (by decide) cS (bf rfl rfl rfl rfl aY) rfl λ cC _ _ => ⟨_, (.put rfl), ⟨rr, (ku (so (aP (so (sk sn))))), ?_⟩⟩))
       refine Any.cv 9 fU (fX x1 [en] l1 (bC.lit z0 (aG.le (aG.cons (x := en) rfl rfl aG.nil) rfl) rfl) ny) ?_
       rintro _ _ _ ⟨rfl, rfl, mJ, rfl⟩
       refine ⟨rr, (ku (so (aP (so (sk sn))))), ?_⟩
       refine Any.dB (H2 := (cC, _) :: (dn, _) :: (cn, _) :: fF) (λ X => (cC, _) :: X ++ ((dn, _) :: (cn, _) :: fF)) (.cons .id) rfl mz (by decide) (by decide) (λ _ => (su (so (so (sk sn))))) (λ y7 bB e9 => ?_)
       replace h0 := h0.mono bB
       replace bX := bX.mono bB
       replace b8 := b8.mono bB
       replace b9 := b9.mono bB
       replace ez := hY.mono (rr) bB ez
       replace bz := bz.up (H := []) bB
       replace bK := bK.up (H := []) bB
       replace cg := cg.up (H := []) bB
       replace cQ := cQ.mono bB
       replace hY := hY.up bB
       refine Any.on 10 rfl rfl (Ox.dO rfl rfl rfl rfl um rfl rfl ((ih (hY.frame [(cC, _), (dn, _), (cn, _)]) eY di x2 ⟨_, ez, rfl⟩ e9 mJ bz.any bX b8 b9 bK cg sV).mono ?_))
       rintro _ zb _ ⟨bw, ⟨fG, jZ, e8⟩, rfl⟩
       replace e8 : _ = (cC, _) :: (dn, _) :: (cn, _) :: fG := e8
       subst e8
       replace h0 := h0.mono bw
       replace bX := bX.mono bw
       replace b8 := b8.mono bw
       replace b9 := b9.mono bw
       replace bz := bz.up (H := []) bw
       replace bK := bK.up (H := []) bw
       replace cg := cg.up (H := []) bw
       replace e9 := e9.mono bw
       replace cQ := cQ.mono bw
       replace hY := hY.up bw
       refine ⟨_, (.put rfl), ⟨bw, (ku (so (so (sk sn)))), ?_⟩⟩
       refine Any.vs 1 [11] rfl ?_
       exact Any.done (At.drop (so (so sr)) (w7 _ _ _ ⟨((bY.trans bB).trans bw), fG, jZ, rfl, aA.sub ⟨rfl, rfl, rfl, rfl, rfl, rfl, rfl, trivial⟩⟩))
      refine  (aR.to (Ox.buildSlice (cells := #[_]) rfl ck rfl (by decide) cS (bf rfl rfl rfl rfl aY) rfl λ cC _ _ => ⟨_, (.put rfl), ⟨rr, (ku (so (aP (so (sk sn))))), ?_⟩⟩))
      refine Any.on 5 rfl rfl (aR.to (Ox.append (K := CZ) (λ X => (cC, _) :: X ++ ((dn, _) :: (cn, _) :: fF)) rfl rfl rfl cR Tryz.underlying25 (by simp) (.cons .id) pB (cE.lit (.tail _ (List.mem_append_right _ z0)) (aG.le (aG.cons (x := en) rfl rfl aG.nil) rfl) rfl) mH rfl λ Bb y3 mz => ⟨_, (.put rfl), ⟨rr, (ku (so (aP (so (sk sn))))), ?_⟩⟩))
      refine Any.cv 9 fU (fX x1 [en] l1 (bC.lit z0 (aG.le (aG.cons (x := en) rfl rfl aG.nil) rfl) rfl) ny) ?_
      rintro _ _ _ ⟨rfl, rfl, mJ, rfl⟩
      refine ⟨rr, (ku (so (aP (so (sk sn))))), ?_⟩
      refine Any.dB (H2 := (cC, _) :: (dn, _) :: (cn, _) :: fF) (λ X => (cC, _) :: X ++ ((dn, _) :: (cn, _) :: fF)) (.cons .id) rfl mz (by decide) (by decide) (λ _ => (su (so (so (sk sn))))) (λ y7 bB e9 => ?_)
      replace h0 := h0.mono bB
      replace bX := bX.mono bB
      replace b8 := b8.mono bB
      replace b9 := b9.mono bB
      replace ez := hY.mono (rr) bB ez
      replace bz := bz.up (H := []) bB
      replace bK := bK.up (H := []) bB
      replace cg := cg.up (H := []) bB
      replace cQ := cQ.mono bB
      replace hY := hY.up bB
      refine Any.on 10 rfl rfl (Ox.dO rfl rfl rfl rfl um rfl rfl ((ih (hY.frame [(cC, _), (dn, _), (cn, _)]) eY di x2 ⟨_, ez, rfl⟩ e9 mJ bz.any bX b8 b9 bK cg sV).mono ?_))
      rintro _ zb _ ⟨bw, ⟨fG, jZ, e8⟩, rfl⟩
      replace e8 : _ = (cC, _) :: (dn, _) :: (cn, _) :: fG := e8
      subst e8
      replace h0 := h0.mono bw
      replace bX := bX.mono bw
      replace b8 := b8.mono bw
      replace b9 := b9.mono bw
      replace bz := bz.up (H := []) bw
      replace bK := bK.up (H := []) bw
      replace cg := cg.up (H := []) bw
      replace e9 := e9.mono bw
      replace cQ := cQ.mono bw
      replace hY := hY.up bw
      refine ⟨_, (.put rfl), ⟨bw, (ku (so (so (sk sn)))), ?_⟩⟩
      refine Any.vs 1 [11] rfl ?_
      exact Any.done (At.drop (so (so sr)) (w7 _ _ _ ⟨((bY.trans bB).trans bw), fG, jZ, rfl, aA.sub ⟨rfl, rfl, rfl, rfl, rfl, rfl, rfl, trivial⟩⟩))
     refine  (aR.to (Ox.buildSlice (cells := #[_]) rfl ck rfl (by decide) cS (bf rfl rfl rfl rfl aY) rfl λ cC _ _ => ⟨_, (.put rfl), ⟨rr, (ku (so (so (sk sn)))), ?_⟩⟩))
     refine Any.cv 2 wP (xI x0 h0.rd qH) ?_
     rintro Ig za _ ⟨bY, _, I8, pB, rfl, rfl⟩
     replace h0 := h0.mono bY
     replace bX := bX.mono bY
     replace b8 := b8.mono bY
     replace b9 := b9.mono bY
     replace ez := hY.mono (rr) bY ez
     replace bz := bz.up (H := []) bY
     replace bK := bK.up (H := []) bY
     replace cg := cg.up (H := []) bY
     replace cQ := cQ.mono bY
     replace hY := hY.up bY
     refine ⟨bY, (ku (aP (so (so (sk sn))))), ?_⟩
     refine Any.on 5 rfl rfl (aR.to (Ox.append (K := CZ) (λ X => X ++ ((cC, _) :: (dn, _) :: (cn, _) :: fF)) rfl rfl rfl cR Tryz.underlying25 (by simp) .id pB (cE.lit (List.mem_append_right _ z1) (aG.le (aG.cons (x := en) rfl rfl aG.nil) rfl) rfl) mH rfl λ Bb y3 mz => ⟨_, (.put rfl), ⟨rr, (ku (aP (so (so (sk sn))))), ?_⟩⟩))
     refine Any.cv 9 fU (fX x1 [en] l1 (bC.lit (List.mem_append_right _ z0) (aG.le (aG.cons (x := en) rfl rfl aG.nil) rfl) rfl) ny) ?_
     rintro _ _ _ ⟨rfl, rfl, mJ, rfl⟩
     refine ⟨rr, (ku (aP (so (so (sk sn))))), ?_⟩
     refine Any.dB (H2 := (cC, _) :: (dn, _) :: (cn, _) :: fF) (λ X => X ++ ((cC, _) :: (dn, _) :: (cn, _) :: fF)) .id rfl mz (by decide) (by decide) (λ _ => (su (so (so (sk sn))))) (λ y7 bB e9 => ?_)
     replace h0 := h0.mono bB
     replace bX := bX.mono bB
     replace b8 := b8.mono bB
     replace b9 := b9.mono bB
     replace ez := hY.mono (rr) bB ez
     replace bz := bz.up (H := []) bB
     replace bK := bK.up (H := []) bB
     replace cg := cg.up (H := []) bB
     replace cQ := cQ.mono bB
     replace hY := hY.up bB
     refine Any.on 10 rfl rfl (Ox.dO rfl rfl rfl rfl um rfl rfl ((ih (hY.frame [(cC, _), (dn, _), (cn, _)]) eY di x2 ⟨_, ez, rfl⟩ e9 mJ bz.any bX b8 b9 bK cg sV).mono ?_))
     rintro _ zb _ ⟨bw, ⟨fG, jZ, e8⟩, rfl⟩
     replace e8 : _ = (cC, _) :: (dn, _) :: (cn, _) :: fG := e8
     subst e8
     replace h0 := h0.mono bw
     replace bX := bX.mono bw
     replace b8 := b8.mono bw
     replace b9 := b9.mono bw
     replace bz := bz.up (H := []) bw
     replace bK := bK.up (H := []) bw
     replace cg := cg.up (H := []) bw
     replace e9 := e9.mono bw
     replace cQ := cQ.mono bw
     replace hY := hY.up bw
     refine ⟨_, (.put rfl), ⟨bw, (ku (so (so (sk sn)))), ?_⟩⟩
     refine Any.vs 1 [11] rfl ?_
     exact Any.done (At.drop (so (so sr)) (w7 _ _ _ ⟨((bY.trans bB).trans bw), fG, jZ, rfl, aA.sub ⟨rfl, rfl, rfl, rfl, rfl, rfl, rfl, trivial⟩⟩))
    refine  (aR.to (Ox.buildSlice (cells := #[_]) rfl ck rfl (by decide) cS (bf rfl rfl rfl rfl aY) rfl λ cC _ _ => ⟨_, (.put rfl), ⟨rr, (ku (so (sk sn))), ?_⟩⟩))
    refine tw 2 4 ?_ ?_
    ·refine  (Ox.dO rfl rfl rfl rfl wP rfl rfl ((xI x0 h0.rd qH).mono ?_))
     rintro Ig za _ ⟨bY, _, I8, pB, rfl, rfl⟩
     replace h0 := h0.mono bY
     replace bX := bX.mono bY
     replace b8 := b8.mono bY
     replace b9 := b9.mono bY
     replace ez := hY.mono (rr) bY ez
     replace bz := bz.up (H := []) bY
     replace bK := bK.up (H := []) bY
     replace cg := cg.up (H := []) bY
     replace cQ := cQ.mono bY
     replace hY := hY.up bY
     refine ⟨_, (.put rfl), ⟨bY, (ku (aP (so (sk sn)))), ?_⟩⟩
     refine Any.on 4 rfl rfl (aR.to (Ox.buildSlice (cells := #[_]) rfl ck rfl (by decide) cS (bf rfl rfl rfl rfl aY) rfl λ dn _ _ => ⟨_, (.put rfl), ⟨rr, (ku (so (aP (so (sk sn))))), ?_⟩⟩))
     refine Any.on 5 rfl rfl (aR.to (Ox.append (K := CZ) (λ X => (dn, _) :: X ++ ((cC, _) :: (cn, _) :: fF)) rfl rfl rfl cR Tryz.underlying25 (by simp) (.cons .id) pB (cE.lit z0 (aG.le (aG.cons (x := en) rfl rfl aG.nil) rfl) rfl) mH rfl λ Bb y3 mz => ⟨_, (.put rfl), ⟨rr, (ku (so (aP (so (sk sn))))), ?_⟩⟩))
     refine Any.cv 9 fU (fX x1 [en] l1 (bC.lit (.tail _ (List.mem_append_right _ z0)) (aG.le (aG.cons (x := en) rfl rfl aG.nil) rfl) rfl) ny) ?_
     rintro _ _ _ ⟨rfl, rfl, mJ, rfl⟩
     refine ⟨rr, (ku (so (aP (so (sk sn))))), ?_⟩
     refine Any.dB (H2 := (dn, _) :: (cC, _) :: (cn, _) :: fF) (λ X => (dn, _) :: X ++ ((cC, _) :: (cn, _) :: fF)) (.cons .id) rfl mz (by decide) (by decide) (λ _ => (su (so (so (sk sn))))) (λ y7 bB e9 => ?_)
     replace h0 := h0.mono bB
     replace bX := bX.mono bB
     replace b8 := b8.mono bB
     replace b9 := b9.mono bB
     replace ez := hY.mono (rr) bB ez
     replace bz := bz.up (H := []) bB
     replace bK := bK.up (H := []) bB
     replace cg := cg.up (H := []) bB
     replace cQ := cQ.mono bB
     replace hY := hY.up bB
     refine Any.on 10 rfl rfl (Ox.dO rfl rfl rfl rfl um rfl rfl ((ih (hY.frame [(dn, _), (cC, _), (cn, _)]) eY di x2 ⟨_, ez, rfl⟩ e9 mJ bz.any bX b8 b9 bK cg sV).mono ?_))
     rintro _ zb _ ⟨bw, ⟨fG, jZ, e8⟩, rfl⟩
     replace e8 : _ = (dn, _) :: (cC, _) :: (cn, _) :: fG := e8
     subst e8
     replace h0 := h0.mono bw
     replace bX := bX.mono bw
     replace b8 := b8.mono bw
     replace b9 := b9.mono bw
     replace bz := bz.up (H := []) bw
     replace bK := bK.up (H := []) bw
     replace cg := cg.up (H := []) bw
     replace e9 := e9.mono bw
     replace cQ := cQ.mono bw
     replace hY := hY.up bw
     refine ⟨_, (.put rfl), ⟨bw, (ku (so (so (sk sn)))), ?_⟩⟩
     refine Any.vs 1 [11] rfl ?_
     exact Any.done (At.drop (so (so sr)) (w7 _ _ _ ⟨((bY.trans bB).trans bw), fG, jZ, rfl, aA.sub ⟨rfl, rfl, rfl, rfl, rfl, rfl, rfl, trivial⟩⟩))
    refine  (aR.to (Ox.buildSlice (cells := #[_]) rfl ck rfl (by decide) cS (bf rfl rfl rfl rfl aY) rfl λ dn _ _ => ⟨_, (.put rfl), ⟨rr, (ku (so (so (sk sn)))), ?_⟩⟩))
    refine Any.cv 2 wP (xI x0 h0.rd qH) ?_
    rintro Ig za _ ⟨bY, _, I8, pB, rfl, rfl⟩
    replace h0 := h0.mono bY
    replace bX := bX.mono bY
    replace b8 := b8.mono bY
    replace b9 := b9.mono bY
    replace ez := hY.mono (rr) bY ez
    replace bz := bz.up (H := []) bY
    replace bK := bK.up (H := []) bY
    replace cg := cg.up (H := []) bY
    replace cQ := cQ.mono bY
    replace hY := hY.up bY
    refine ⟨bY, (ku (aP (so (so (sk sn))))), ?_⟩
    refine Any.on 5 rfl rfl (aR.to (Ox.append (K := CZ) (λ X => X ++ ((dn, _) :: (cC, _) :: (cn, _) :: fF)) rfl rfl rfl cR Tryz.underlying25 (by simp) .id pB (cE.lit (List.mem_append_right _ z0) (aG.le (aG.cons (x := en) rfl rfl aG.nil) rfl) rfl) mH rfl λ Bb y3 mz => ⟨_, (.put rfl), ⟨rr, (ku (aP (so (so (sk sn))))), ?_⟩⟩))
    refine Any.cv 9 fU (fX x1 [en] l1 (bC.lit (List.mem_append_right _ z1) (aG.le (aG.cons (x := en) rfl rfl aG.nil) rfl) rfl) ny) ?_
    rintro _ _ _ ⟨rfl, rfl, mJ, rfl⟩
    refine ⟨rr, (ku (aP (so (so (sk sn))))), ?_⟩
    refine Any.dB (H2 := (dn, _) :: (cC, _) :: (cn, _) :: fF) (λ X => X ++ ((dn, _) :: (cC, _) :: (cn, _) :: fF)) .id rfl mz (by decide) (by decide) (λ _ => (su (so (so (sk sn))))) (λ y7 bB e9 => ?_)
    replace h0 := h0.mono bB
    replace bX := bX.mono bB
    replace b8 := b8.mono bB
    replace b9 := b9.mono bB
    replace ez := hY.mono (rr) bB ez
    replace bz := bz.up (H := []) bB
    replace bK := bK.up (H := []) bB
    replace cg := cg.up (H := []) bB
    replace cQ := cQ.mono bB
    replace hY := hY.up bB
    refine Any.on 10 rfl rfl (Ox.dO rfl rfl rfl rfl um rfl rfl ((ih (hY.frame [(dn, _), (cC, _), (cn, _)]) eY di x2 ⟨_, ez, rfl⟩ e9 mJ bz.any bX b8 b9 bK cg sV).mono ?_))
    rintro _ zb _ ⟨bw, ⟨fG, jZ, e8⟩, rfl⟩
    replace e8 : _ = (dn, _) :: (cC, _) :: (cn, _) :: fG := e8
    subst e8
    replace h0 := h0.mono bw
    replace bX := bX.mono bw
    replace b8 := b8.mono bw
    replace b9 := b9.mono bw
    replace bz := bz.up (H := []) bw
    replace bK := bK.up (H := []) bw
    replace cg := cg.up (H := []) bw
    replace e9 := e9.mono bw
    replace cQ := cQ.mono bw
    replace hY := hY.up bw
    refine ⟨_, (.put rfl), ⟨bw, (ku (so (so (sk sn)))), ?_⟩⟩
    refine Any.vs 1 [11] rfl ?_
    exact Any.done (At.drop (so (so sr)) (w7 _ _ _ ⟨((bY.trans bB).trans bw), fG, jZ, rfl, aA.sub ⟨rfl, rfl, rfl, rfl, rfl, rfl, rfl, trivial⟩⟩))
   exact At.exit rfl (At.drop (so sr) (J4 _ (af hM).symm _ _ _ ⟨pn, fF, ez, rfl, aA.sub trivial⟩))
  rintro lC agz afW azH ⟨Fl, y4, Qb, rfl, RK⟩ hM
  refine At.sub RK ?_
  replace hY := hY.up Fl
  refine sg aL ?_
  refine vs 1 ?_
  refine er ?_
  obtain rfl := af hM
  exact rt Tryz.func152 (.tmp rfl .nil) sr (hk _ _ _ ⟨(fV.trans Fl), Qb, rfl⟩)
theorem T6 {S : Type} {ys : (List Int) → S → Option (S × Bool)} {vY : Value} {Inv : S → aI → au → Prop} {R : aI} {Hy : au} (hY : iq ag R (EP CZ 1) vY ys Inv) (x0 : aq) {s0 : S} (hI : Inv s0 R Hy) {aC aD aH : Value} (ay : aj bm 5 R aC x0.az) (aB : aj CZ 1 R aD x0.Out) (aF : aj bh 2 R aH x0.aO) {r : S} (hM : rL ys x0 s0 = some r) : aJ ag 108 #[.agg #[iv x0.aE, iv x0.aa.an, iv x0.aa.ax, aC, aD, aH], vY] R Hy (λ v R' H' => aN R R' ∧ Inv r R' H' ∧ v = .tuple #[]) := by
 unfold rL at hM
 refine aJ.aX Tryz.func108 rfl (n := 13) rfl rfl λ fr cs hk => ?_
 refine sg aQ ?_
 refine bx λ cn => ?_
 refine At.s rfl rfl (Ox.uk rfl rfl hY.cells rfl λ m7 _ _ => ⟨_, (.put rfl), ?_⟩)
 refine nx aL ?_
 refine At.s rfl rfl (Ox.alloc (cs := #[.nilFunc]) rfl aBF rfl λ jU _ _ => ⟨_, (.put rfl), ?_⟩)
 refine nx aQ ?_
 refine At.s rfl rfl (Ox.makeFunc (vs := #[]) (us := #[_, _, _]) rfl rfl rfl rfl (.put rfl) ?_)
 refine At.s rfl rfl (Ox.cM (cs' := #[_]) rfl rfl rfl Uv rfl .here rfl rfl rfl (.refl _) ?_)
 refine er ?_
 refine At.nh (H2 := (jU, _) :: (m7, _) :: Hy) (λ X => (jU, _) :: (m7, _) :: X ++ (Hy)) (.cons (.cons .id)) rfl (λ Xc kA iC => ?_)
 replace ay := ay.mono kA
 replace aB := aB.mono kA
 replace aF := aF.mono kA
 replace hI := hY.mono (rr) kA hI
 replace hY := hY.up kA
 refine At.nh (H2 := (jU, _) :: Hy) (λ X => (jU, _) :: X ++ (Hy)) (.cons .id) rfl (λ agG k7 om => ?_)
 replace ay := ay.mono k7
 replace aB := aB.mono k7
 replace aF := aF.mono k7
 replace hI := hY.mono (rr) k7 hI
 replace iC := iC.up (H := []) k7
 replace hY := hY.up k7
 refine At.nh (H2 := Hy) (λ X => X ++ (Hy)) .id rfl (λ OK j0 qt => ?_)
 replace ay := ay.mono j0
 replace aB := aB.mono j0
 replace aF := aF.mono j0
 replace hI := hY.mono (rr) j0 hI
 replace iC := iC.up (H := []) j0
 replace om := om.up (H := []) j0
 replace hY := hY.up j0
 refine At.draw (n := 7) (is := [0, 1, 2, 3, 4, 5, 6]) (λ _ => []) mixed rfl (by decide +kernel) rfl rfl ?_
 refine ts 0 [6] rfl (λ _ _ _ _ _ h => h) (su sn) (λ R' H' hR hS => Ox.bV rfl rfl Uv ((qt.up hR).one (j := 0) rfl) rfl (.one rfl) ⟨rfl, rfl, rfl⟩) ?_
 refine ts 1 [5, 6] rfl (λ _ _ _ _ _ h => h) (su sn) (λ R' H' hR hS => Ox.qj (z := (List.toArray ([] ++ ([false, false, false, false, false].map Value.bool ++ [])))) rfl qg rfl (.one rfl) ⟨rfl, rfl, rfl⟩) ?_
 refine Any.vs 2 [2, 3] rfl ?_
 refine ts 4 [5, 6] rfl (λ _ _ _ _ _ h => h) (su sn) (λ R' H' hR hS => Ox.bV rfl rfl bL ((iC.up hR).one (j := 4) rfl) rfl (.one rfl) ⟨rfl, rfl, rfl⟩) ?_
 obtain ⟨fR, qE, hM⟩ := ao hM
 refine Any.cv 5 fU (fX [false, false, false, false, false] x0.Out rfl aB.rd qE) ?_
 rintro _ _ _ ⟨rfl, rfl, awF, rfl⟩
 refine ⟨rr, (ku sn), ?_⟩
 obtain ⟨jO, uR, hM⟩ := ao hM
 refine Any.on 6 rfl rfl (Ox.dO rfl rfl rfl rfl um rfl rfl ((aw1 9  (hY.frame []) [] fR x0 ⟨_, hI, rfl⟩ aj.nil awF iC.any ay aB aF om qt uR).mono ?_))
 rintro _ agO _ ⟨wZ, ⟨agu, akx, P6⟩, rfl⟩
 replace P6 : agu = _ := P6.symm
 subst P6
 replace iC := iC.up (H := []) wZ
 replace om := om.up (H := []) wZ
 replace qt := qt.up (H := []) wZ
 replace hY := hY.up wZ
 refine ⟨_, (.put rfl), ⟨wZ, (ku sn), ?_⟩⟩
 refine Any.done ?_
 obtain rfl := af hM
 exact At.wN Tryz.func108 .nil (J.drop sr (hk _ _ _ ⟨(((kA.trans k7).trans j0).trans wZ), akx, rfl⟩))
theorem NZ (x0 : aq) {aC aD aH : Value} (hG : fM R) (hK : y6 ag) (ay : aj bm 5 R aC x0.az) (aB : aj CZ 1 R aD x0.Out) (aF : aj bh 2 R aH x0.aO) {r : (Int × Int)} (hM : tR x0 = some r) : aJ ag 25 #[.agg #[iv x0.aE, iv x0.aa.an, iv x0.aa.ax, aC, aD, aH]] R H (λ v R' H' => aN R R' ∧ H = H' ∧ v = .tuple #[iv r.1, iv r.2]) := by
 unfold tR at hM
 refine aJ.aX Tryz.func25 rfl (n := 38) rfl rfl λ fr cs hk => ?_
 refine sg aS ?_
 refine bx λ gS => ?_
 refine vs 2 ?_
 refine er ?_
 refine At.scope ?_
 refine sg eC ?_
 refine lN [_, _, _, _, _, _] 0 6 aU z0 ?_
 obtain ⟨ek, GK, hM⟩ := ao hM
 refine At.cv oe (oI x0 (λ y => mY y) hG ay aB aF ⟨90, #[], #[], rfl, E8, λ R' H' hR hH y r va hA hr => by obtain ⟨_, rfl, ⟨pZ, oN, p5, gv, fN, gw, rfl⟩⟩ := hA; exact (Hu y gv fN gw hr).mono λ _ _ _ ⟨h1, h2, h3⟩ => ⟨h1 ▸ rr, h2.symm, h3⟩⟩ GK) ?_
 rintro _ Xn _ ⟨nu, aFT, DG, DH, DI, DJ, DK, xw, xx, xy, aaS, aaT, rfl, rfl⟩
 refine vs 3 ?_
 refine At.s rfl rfl (Ox.alloc (cs := #[iv 0, iv 0, iv 0, .slice none 0 0, .slice none 0 0, .slice none 0 0, .slice none 0 0, .map none]) rfl mT rfl λ lX _ _ => ⟨_, (.put rfl), ?_⟩)
 refine At.s rfl rfl (Ox.bp (cs' := #[_, _, _, _, _, _, _, _]) rfl rfl rfl eK rfl (ak rfl (ak rfl (ak rfl (ak xw.one (ak xx.one (ak xy.one (ak aaS.one (ak aaT.one aW)))))))) .here rfl rfl rfl (.refl _) ?_)
 refine vs 1 ?_
 refine es ?_
 refine sg aQ ?_
 refine vs 2 ?_
 refine er ?_
 refine sc hM (λ SU hM => ?_) (λ SU hM => ?_)
 ·refine sg aS ?_
  refine vs 3 ?_
  refine er ?_
  obtain rfl := af hM
  exact rt Tryz.func25 (.tmp rfl (.tmp rfl .nil)) (so (aP (so sr))) (hk _ _ _ ⟨nu, rfl, rfl⟩)
 refine sp ?_
 refine sg aQ ?_
 refine lN [_, _, _, _, _, _, _, _] 0 8 eK z0 ?_
 obtain ⟨ju, Ar, hM⟩ := ao hM
 refine At.step rfl rfl rfl (Ox.dO rfl rfl rfl rfl J0 rfl rfl ((aJ.hole (G := (λ X => (lX, _) :: X ++ ((gS, _) :: H))) (.cons .id) (hK ek.1 xw xx xy aaS aaT Ar)).mono ?_))
 rintro _ OO _ ⟨_, ⟨jF, zK, rfl, rfl⟩, rfl⟩
 replace xw := xw.mono jF
 replace xx := xx.mono jF
 replace xy := xy.mono jF
 refine ⟨_, (.put rfl), ?_⟩
 refine nx aQ ?_
 refine At.s rfl rfl (Ox.alloc (cs := #[iv 0]) rfl vN rfl λ r8 _ _ => ⟨_, (.put rfl), ?_⟩)
 refine At.s rfl rfl (Ox.cM (cs' := #[_]) rfl rfl rfl bg rfl .here rfl rfl rfl (.refl _) ?_)
 refine es ?_
 refine At.label ?_
 refine sq ?_
 refine sg aS ?_
 refine vs 1 ?_
 refine lN [_, _, _, _, _, _] 0 6 ew z1 ?_
 refine At.s rfl rfl (Ox.makeFunc (vs := #[_]) (us := #[]) rfl rfl rfl rfl (.put rfl) ?_)
 refine er ?_
 refine At.block ?_
 refine At.HJ (A := (EP CZ 1)) (λ y s => rL y ek.1.book s)  hM rfl Pr rfl rfl rfl (λ (gD : Int) R' T H' => aN OO R' ∧ H' = (r8, .cells #[iv gD] 3) :: (lX, .cells #[iv ek.1.book.aE, iv ek.1.book.aa.an, iv ek.1.book.aa.ax, DG, DH, DI, DJ, DK] 106) :: (gS, .cells #[iv x0.aE, iv x0.aa.an, iv x0.aa.ax, aC, aD, aH] 28) :: T)  (λ gD R0 T0 H0 q => by obtain ⟨hR, rfl⟩ := q; exact ⟨(r8, .cells #[iv gD] 3) :: (lX, .cells #[iv ek.1.book.aE, iv ek.1.book.aa.an, iv ek.1.book.aa.ax, DG, DH, DI, DJ, DK] 106) :: (gS, .cells #[iv x0.aE, iv x0.aa.an, iv x0.aa.ax, aC, aD, aH] 28) :: [], by simp, λ R1 T1 h => ⟨hR.trans h, by simp⟩⟩)  (λ v Inv Hy z hY hI hz => (T6 hY ek.1.book hI xw xx xy hz).mono λ _ _ _ h => ⟨h.1, h.2.1⟩) ⟨rr, rfl⟩ ?_ ?_
 ·rintro r55 gD W8 aE6 _ ⟨wW, rfl⟩ hM
  refine At.inBlock ?_
  refine sg aS ?_
  refine ld 0 bg z0 ?_
  refine vs 2 ?_
  refine er ?_
  obtain rfl := af hM
  exact At.qW (.there (.there (.there .here))) Tryz.func25 (.tmp rfl (.tmp rfl .nil)) (J.drop (so (so (so (so sr)))) (hk _ _ _ ⟨((nu.trans jF).trans wW), rfl, rfl⟩))
 rintro aPG NR gD W8 T55 H55 K2 K3 aKJ _ aK4 akq ⟨wW, rfl⟩ aow z55 hM EU
 replace zK := zK.mono wW
 replace xw := xw.mono wW
 replace xx := xx.mono wW
 replace xy := xy.mono wW
 refine At.rg aL ?_
 refine vs 1 ?_
 refine er ?_
 refine At.beginRound rfl rfl (.there (.there (.there .here))) aow ?_
 refine At.block ?_
 refine sq ?_
 refine sg bn ?_
 refine vs 1 ?_
 refine lN [_, _, _, _, _, _] 0 6 ew z1 ?_
 refine vs 1 ?_
 obtain ⟨iK, uX, hM⟩ := ao hM
 refine At.cv Pp (T4 ek.1.book NR xw xx xy akq uX) ?_
 rintro _ Xq _ ⟨FD, rfl, aQJ, aQK, aQL, aKc, aQM, aKd, avb, au8, au9, ava, avd, avc, rfl⟩
 replace zK := zK.mono FD
 refine er ?_
 refine At.block ?_
 refine At.ay0 (A := (jR (IU Value.bool 5))) (λ y s => qO y iK.1 iK.2 s) (.exit 1) hM rfl PE rfl rfl z3 rfl (λ (mQ : Unit) R' T H' => aN Xq R' ∧ H' = (r8, .cells #[iv gD] 3) :: (lX, .cells #[iv ek.1.book.aE, iv ek.1.book.aa.an, iv ek.1.book.aa.ax, DG, DH, DI, DJ, DK] 106) :: (gS, .cells #[iv x0.aE, iv x0.aa.an, iv x0.aa.ax, aC, aD, aH] 28) :: (K2, .loop { K3 with state := .busy }) :: T) (λ (LR : Unit) R' T H' => aN Xq R' ∧ H' = (r8, .cells #[iv gD] 3) :: (lX, .cells #[iv ek.1.book.aE, iv ek.1.book.aa.an, iv ek.1.book.aa.ax, DG, DH, DI, DJ, DK] 106) :: (gS, .cells #[iv x0.aE, iv x0.aa.an, iv x0.aa.ax, aC, aD, aH] 28) :: (K2, .loop { K3 with state := .busy }) :: T) (λ mQ R0 T0 H0 q => by obtain ⟨hR, rfl⟩ := q; exact ⟨(r8, .cells #[iv gD] 3) :: (lX, .cells #[iv ek.1.book.aE, iv ek.1.book.aa.an, iv ek.1.book.aa.ax, DG, DH, DI, DJ, DK] 106) :: (gS, .cells #[iv x0.aE, iv x0.aa.an, iv x0.aa.ax, aC, aD, aH] 28) :: (K2, .loop { K3 with state := .busy }) :: [], by simp, λ R1 T1 h => ⟨hR.trans h, by simp⟩⟩) (λ LR R0 T0 H0 q => by obtain ⟨hR, rfl⟩ := q; exact ⟨(r8, .cells #[iv gD] 3) :: (lX, .cells #[iv ek.1.book.aE, iv ek.1.book.aa.an, iv ek.1.book.aa.ax, DG, DH, DI, DJ, DK] 106) :: (gS, .cells #[iv x0.aE, iv x0.aa.an, iv x0.aa.ax, aC, aD, aH] 28) :: (K2, .loop { K3 with state := .busy }) :: [], by simp, λ R1 T1 h => ⟨hR.trans h, by simp⟩⟩) (λ v Inv Hy z hY hI hz => (Ui hY iK.1 iK.2 hI avb au8 au9 ava avd avc hz).mono λ _ _ _ h => ⟨h.1, h.2.1⟩) ⟨rr, rfl⟩ ?_ ?_ ?_
 ·rintro mQ Xa af5 _ ⟨Cf, rfl⟩ hM
  refine At.inBlock ?_
  refine At.rg aS ?_
  refine ld 0 bg z0 ?_
  refine vs 1 ?_
  refine At.s rfl rfl (Ox.cM (cs' := #[_]) rfl rfl rfl bg rfl .here rfl rfl rfl (.refl _) ?_)
  refine er ?_
  refine At.inBlock ?_
  exact EU _ (af hM).symm _ _ _ (FD.trans Cf) ⟨((wW.trans FD).trans Cf), rfl⟩
 ·rintro LR agE af5 _ ⟨ZC, rfl⟩ hM
  refine At.exit rfl ?_
  exact EU _ (af hM).symm _ _ _ (FD.trans ZC) ⟨((wW.trans FD).trans ZC), rfl⟩
 rintro aPH Vq mQ Xa T69 H69 l69 aL2 aKK _ aK5 ⟨_, rfl, ⟨G8, rfl⟩⟩ ⟨Cf, rfl⟩ aox z69 hM OS PU
 replace zK := zK.mono Cf
 refine At.rg aQ ?_
 refine At.s rfl rfl (Ox.alloc (cs := (List.toArray ([] ++ ([false, false, false, false, false].map Value.bool ++ [])))) rfl j7 rfl λ wJ _ _ => ⟨_, (.put rfl), ?_⟩)
 refine At.s rfl rfl (Ox.bp (cs' := _) rfl rfl rfl dc (by simp [G8]) (cr aW (cr (eM λ _ => rfl) aW)) .here (by simp) (eB (by simp [G8])) rfl (.refl _) ?_)
 refine er ?_
 refine At.beginRound rfl rfl (.there (.there (.there (.there (.there .here))))) aox ?_
 refine At.block ?_
 refine sq ?_
 refine At.dw dY mixed ?_
 refine Any.vs 1 [0] rfl ?_
 refine tl 1 7 Ut z2 ?_
 refine Any.tk 2 rfl pp (λ R' H' hR hS => Ox.bP (vs := _) rfl rfl dc (by simp [G8]) ((aT.box (hS _ z0)).part (j := 0) (n := 5) (eE (by simp [G8]))) rfl (.one rfl) ⟨rfl, rfl, rfl⟩) ?_
 refine Any.tk 3 rfl pp (λ R' H' hR hS => Ox.lookup (k := Vq) rfl rfl rfl Up (zK.mono hR) G8 rfl (.one rfl) ⟨rfl, rfl, rfl⟩) ?_
 refine Any.vs 1 [4] rfl ?_
 refine tl 5 0 bg z3 ?_
 refine Any.vs 1 [6] rfl ?_
 refine Any.done ?_
 refine sc hM (λ Ai hM => ?_) (λ Ai hM => ?_)
 ·exact At.drop (so sr) (PU _ (af hM).symm _ _ _ _ (rr) ⟨Cf, rfl⟩ (.inr (.inr ⟨_, _, rfl, rfl, rfl⟩)))
 refine sp ?_
 refine At.inBlock ?_
 exact At.drop (so sr) (OS _ (af hM).symm _ _ _ (rr) ⟨Cf, rfl⟩)
theorem afx (x0 : aq) {aC aD aH : Value} (hG : fM R) (hK : y6 ag) (ay : aj bm 5 R aC x0.az) (aB : aj CZ 1 R aD x0.Out) (aF : aj bh 2 R aH x0.aO) {r : ((List Int) × Bool × Int)} (hM : yB x0 = some r) : aJ ag 27 #[.agg #[iv x0.aE, iv x0.aa.an, iv x0.aa.ax, aC, aD, aH]] R H (λ v R' H' => aN R R' ∧ H = H' ∧ ∃ bU, aj CZ 1 R' bU r.1 ∧ v = .tuple #[bU, .bool r.2.1, iv r.2.2]) := by
 unfold yB at hM
 refine aJ.aX Tryz.func27 rfl (n := 28) rfl rfl λ fr cs hk => ?_
 refine sg bn ?_
 refine bx λ e7 => ?_
 refine At.s rfl rfl (Ox.alloc (cs := #[.slice none 0 0]) rfl aBH rfl λ o6 _ _ => ⟨_, (.put rfl), ?_⟩)
 refine At.s rfl rfl (Ox.alloc (cs := #[.bool false]) rfl Vy rfl λ kY _ _ => ⟨_, (.put rfl), ?_⟩)
 refine At.s rfl rfl (Ox.alloc (cs := #[iv 0]) rfl aBI rfl λ m8 _ _ => ⟨_, (.put rfl), ?_⟩)
 refine nx eC ?_
 refine lN [_, _, _, _, _, _] 0 6 aU z3 ?_
 obtain ⟨cU, GJ, hM⟩ := ao hM
 refine At.cv oe (oI x0 (λ y => mY y) hG ay aB aF ⟨90, #[], #[], rfl, E8, λ R' H' hR hH y r va hA hr => by obtain ⟨_, rfl, ⟨pZ, oN, p5, gv, fN, gw, rfl⟩⟩ := hA; exact (Hu y gv fN gw hr).mono λ _ _ _ ⟨h1, h2, h3⟩ => ⟨h1 ▸ rr, h2.symm, h3⟩⟩ GJ) ?_
 rintro _ aII _ ⟨Qo, I7, Dz, DC, DD, DE, DF, xp, xq, xu, Ao, aaN, rfl, rfl⟩
 refine vs 3 ?_
 refine At.s rfl rfl (Ox.alloc (cs := #[iv 0, iv 0, iv 0, .slice none 0 0, .slice none 0 0, .slice none 0 0, .slice none 0 0, .map none]) rfl mT rfl λ m9 _ _ => ⟨_, (.put rfl), ?_⟩)
 refine At.s rfl rfl (Ox.bp (cs' := #[_, _, _, _, _, _, _, _]) rfl rfl rfl eK rfl (ak rfl (ak rfl (ak rfl (ak xp.one (ak xq.one (ak xu.one (ak Ao.one (ak aaN.one aW)))))))) .here rfl rfl rfl (.refl _) ?_)
 refine At.s rfl rfl (Ox.cM (cs' := #[_]) rfl rfl rfl vh rfl (.there (.skip .here)) rfl rfl rfl (.refl _) ?_)
 refine es ?_
 refine sg aQ ?_
 refine At.ld vh ((aT.box (.tail _ (List.mem_append_right _ z0))).one (j := 0) rfl) ?_
 refine vs 1 ?_
 refine er ?_
 refine sc hM (λ uL hM => ?_) (λ uL hM => ?_)
 ·refine sq ?_
  refine At.draw (n := 4) (is := [0, 1, 2, 3]) (many ((m9, .cells #[iv cU.1.book.aE, iv cU.1.book.aa.an, iv cU.1.book.aa.ax, Dz, DC, DD, DE, DF] 106) :: I7 ++ ((m8, .cells #[iv cU.2] 31) :: (kY, .cells #[.bool false] 4) :: (o6, .cells #[.slice none 0 0] 25) :: (e7, .cells #[iv x0.aE, iv x0.aa.an, iv x0.aa.ax, aC, aD, aH] 28) :: H)) [(1, (m9, .cells #[iv cU.1.book.aE, iv cU.1.book.aa.an, iv cU.1.book.aa.ax, Dz, DC, DD, DE, DF] 106) :: I7 ++ ((m8, .cells #[iv cU.2] 31) :: (kY, .cells #[.bool false] 4) :: (e7, .cells #[iv x0.aE, iv x0.aa.an, iv x0.aa.ax, aC, aD, aH] 28) :: H)), (2, (m9, .cells #[iv cU.1.book.aE, iv cU.1.book.aa.an, iv cU.1.book.aa.ax, Dz, DC, DD, DE, DF] 106) :: I7 ++ ((m8, .cells #[iv cU.2] 31) :: (e7, .cells #[iv x0.aE, iv x0.aa.an, iv x0.aa.ax, aC, aD, aH] 28) :: H)), (3, (m9, .cells #[iv cU.1.book.aE, iv cU.1.book.aa.an, iv cU.1.book.aa.ax, Dz, DC, DD, DE, DF] 106) :: I7 ++ ((e7, .cells #[iv x0.aE, iv x0.aa.an, iv x0.aa.ax, aC, aD, aH] 28) :: H))]) mixed rfl (by decide +kernel) rfl rfl ?_
  refine ts 0 [3] rfl (Hw (su (so (aP (sk (so (so sr)))))) (Hw (su (so (aP (sk (so sr))))) (cq rfl (dm (su (so (aP (sk (so (so (so sr))))))))))) (su (so (aP (sk (so (so (so sr))))))) (λ R' H' hR hS => Ox.bV rfl rfl vh ((aT.box (hS _ z0)).one (j := 0) rfl) rfl (.one rfl) ⟨rfl, rfl, rfl⟩) ?_
  refine Any.on 1 rfl rfl (aR.to (Ox.cM (cs' := #[_]) rfl rfl rfl bL rfl (.there (.skip (.there (.there .here)))) rfl rfl rfl (.refl _) ⟨rr, (bO rfl (su (sk (eD (sk (sk (so sr))))))), ?_⟩))
  refine Any.on 2 rfl rfl (aR.to (Ox.cM (cs' := #[_]) rfl rfl rfl iS rfl (.there (.skip (.there .here))) rfl rfl rfl (.refl _) ⟨rr, (bO rfl (su (sk (eD (sk (so (so sr))))))), ?_⟩))
  refine Any.on 3 rfl rfl (aR.to (Ox.cM (cs' := #[_]) rfl rfl rfl vh rfl (.there (.skip .here)) rfl rfl rfl (.refl _) ⟨rr, (bO rfl (su (sk (eD (so (so (so sr))))))), ?_⟩))
  refine Any.done ?_
  obtain rfl := af hM
  exact rt Tryz.func27 (.one rfl bL ((aT.box (.tail _ (List.mem_append_right _ z2))).one (j := 0) rfl) (.one rfl iS ((aT.box (.tail _ (List.mem_append_right _ z1))).one (j := 0) rfl) (.one rfl vh ((aT.box (.tail _ (List.mem_append_right _ z0))).one (j := 0) rfl) .nil))) (so (aP (so (so (so (so sr)))))) (hk _ _ _ ⟨Qo, rfl, .slice none 0 0, aj.nil, rfl⟩)
 refine sp ?_
 refine sg aQ ?_
 refine lN [_, _, _, _, _, _, _, _] 0 8 eK z0 ?_
 obtain ⟨fc, oC, hM⟩ := ao hM
 refine At.step rfl rfl rfl (Ox.dO rfl rfl rfl rfl J0 rfl rfl ((aJ.hole (G := (λ X => (m9, _) :: X ++ ((m8, _) :: (kY, _) :: (o6, _) :: (e7, _) :: H))) (.cons .id) (hK cU.1 xp xq xu Ao aaN oC)).mono ?_))
 rintro _ EL _ ⟨_, ⟨pz, Ri, rfl, rfl⟩, rfl⟩
 replace xp := xp.mono pz
 replace xq := xq.mono pz
 replace xu := xu.mono pz
 replace Ao := Ao.mono pz
 refine ⟨_, (.put rfl), ?_⟩
 refine es ?_
 refine sg aS ?_
 refine vs 1 ?_
 refine lN [_, _, _, _, _, _] 0 6 ew z0 ?_
 refine At.s rfl rfl (Ox.makeFunc (vs := #[_]) (us := #[]) rfl rfl rfl rfl (.put rfl) ?_)
 refine er ?_
 refine At.block ?_
 refine At.UH (A := (EP CZ 1)) (λ y s => rL y cU.1.book s) .ret hM rfl Pr rfl rfl rfl (λ (fZ : Unit) R' T H' => aN EL R' ∧ H' = (m9, .cells #[iv cU.1.book.aE, iv cU.1.book.aa.an, iv cU.1.book.aa.ax, Dz, DC, DD, DE, DF] 106) :: (m8, .cells #[iv cU.2] 31) :: (kY, .cells #[.bool false] 4) :: (o6, .cells #[.slice none 0 0] 25) :: (e7, .cells #[iv x0.aE, iv x0.aa.an, iv x0.aa.ax, aC, aD, aH] 28) :: T) (λ (pO : (List Int)) R' T H' => aN EL R' ∧ ∃ pX, aj CZ 1 R' pX pO ∧ H' = (m8, .cells #[iv 0] 31) :: (kY, .cells #[.bool true] 4) :: (o6, .cells #[pX] 25) :: T) (λ fZ R0 T0 H0 q => by obtain ⟨hR, rfl⟩ := q; exact ⟨(m9, .cells #[iv cU.1.book.aE, iv cU.1.book.aa.an, iv cU.1.book.aa.ax, Dz, DC, DD, DE, DF] 106) :: (m8, .cells #[iv cU.2] 31) :: (kY, .cells #[.bool false] 4) :: (o6, .cells #[.slice none 0 0] 25) :: (e7, .cells #[iv x0.aE, iv x0.aa.an, iv x0.aa.ax, aC, aD, aH] 28) :: [], by simp, λ R1 T1 h => ⟨hR.trans h, by simp⟩⟩) (λ pO R0 T0 H0 q => by obtain ⟨hR, pX, P4, rfl⟩ := q; exact ⟨(m8, .cells #[iv 0] 31) :: (kY, .cells #[.bool true] 4) :: (o6, .cells #[pX] 25) :: [], by simp, λ R1 T1 h => ⟨hR.trans h, pX, P4.mono h, by simp⟩⟩) (λ v Inv Hy z hY hI hz => (T6 hY cU.1.book hI xp xq xu hz).mono λ _ _ _ h => ⟨h.1, h.2.1⟩) ⟨rr, rfl⟩ ?_ ?_ ?_
 ·rintro r45 fZ OG af1 _ ⟨ux, rfl⟩ hM
  refine At.inBlock ?_
  refine sg aS ?_
  refine At.s rfl rfl (Ox.cM (cs' := #[_]) rfl rfl rfl bL rfl (.there (.there (.there .here))) rfl rfl rfl (.refl _) ?_)
  refine At.s rfl rfl (Ox.cM (cs' := #[_]) rfl rfl rfl iS rfl (.there (.there .here)) rfl rfl rfl (.refl _) ?_)
  refine At.s rfl rfl (Ox.cM (cs' := #[_]) rfl rfl rfl vh rfl (.there .here) rfl rfl rfl (.refl _) ?_)
  refine er ?_
  obtain rfl := af hM
  exact At.qW (.there (.there (.there (.there (.there .here))))) Tryz.func27 (.one rfl bL ((aT.box z3).one (j := 0) rfl) (.one rfl iS ((aT.box z2).one (j := 0) rfl) (.one rfl vh ((aT.box z1).one (j := 0) rfl) .nil))) (J.drop (so (so (so (so (so (so sr)))))) (hk _ _ _ ⟨((Qo.trans pz).trans ux), rfl, .slice none 0 0, aj.nil, rfl⟩))
 ·rintro r45 pO W3 af1 _ ⟨akF, pX, P4, rfl⟩ hM
  obtain rfl := af hM
  exact At.qW (.there (.there (.there .here))) Tryz.func27 (.one rfl bL ((aT.box z2).one (j := 0) rfl) (.one rfl iS ((aT.box z1).one (j := 0) rfl) (.one rfl vh ((aT.box z0).one (j := 0) rfl) .nil))) (J.drop (so (so (so (so sr)))) (hk _ _ _ ⟨((Qo.trans pz).trans akF), rfl, pX, P4, rfl⟩))
 rintro aAc Nb fZ OG T45 WE l45 aL1 aKI _ aK3 Fi ⟨ux, rfl⟩ aov z45 hM BU Fa
 replace Ri := Ri.mono ux
 replace xp := xp.mono ux
 replace xq := xq.mono ux
 replace xu := xu.mono ux
 replace Ao := Ao.mono ux
 refine At.rg aL ?_
 refine vs 1 ?_
 refine er ?_
 refine At.beginRound rfl rfl (.there (.there (.there (.there (.there .here))))) aov ?_
 refine At.block ?_
 refine sq ?_
 refine At.dw dy mixed ?_
 refine tN 0 [_, _, _, _, _, _, _, _] 0 8 eK z0 ?_
 refine Any.vs 2 [1, 3] rfl ?_
 refine tl 4 0 bg z4 ?_
 obtain ⟨ek, GK, hM⟩ := ao hM
 refine Any.cv 2 PM (Uo (⟨⟨cU.1.book.aE, ⟨cU.1.book.aa.an, cU.1.book.aa.ax⟩, cU.1.book.az, cU.1.book.Out, cU.1.book.aO⟩, cU.1.dR, fc⟩ : cW) Nb xp xq xu Ao Ri Fi GK) ?_
 rintro _ Xn _ ⟨nu, rfl, rfl⟩
 replace Fi := Fi.mono nu
 refine ⟨nu, ka, ?_⟩
 refine Any.vs 1 [5] rfl ?_
 refine Any.done ?_
 refine sc hM (λ uM hM => ?_) (λ uM hM => ?_)
 ·refine sg bn ?_
  refine vs 1 ?_
  refine At.s rfl rfl (Ox.cM (cs' := #[_]) rfl rfl rfl bL Fi.one (.there (.there (.there .here))) rfl rfl rfl (.refl _) ?_)
  refine At.s rfl rfl (Ox.cM (cs' := #[_]) rfl rfl rfl iS rfl (.there (.there .here)) rfl rfl rfl (.refl _) ?_)
  refine At.s rfl rfl (Ox.cM (cs' := #[_]) rfl rfl rfl vh rfl (.there .here) rfl rfl rfl (.refl _) ?_)
  refine er ?_
  exact At.drop (so (sk (sk (sk (so sr))))) (Fa _ (af hM).symm _ _ _ _ nu ⟨(ux.trans nu), aAc, Fi, rfl⟩ (.inr (.inl ⟨_, rfl, rfl⟩)))
 refine sp ?_
 refine At.inBlock ?_
 exact BU _ (af hM).symm _ _ _ nu ⟨(ux.trans nu), rfl⟩
theorem awM (x0 : an) (x1 : (List Int)) (x2 : Int) {Mg v1 : Value} {b0 e0 : Nat} (akn : aj CZ 1 R Mg x0.NM) (h1 : aj CZ 1 R v1 x1) {r : an} (hM : D2 x0 x1 x2 = some r) : aJ ag 110 #[.pointer (some ⟨b0, 0, none⟩), v1, iv x2] R ((b0, .cells #[Mg, iv x0.number, .bool x0.some_] e0) :: H) (λ v R' H' => ∃ cH, (aN R R' ∧ ∃ acW, aj CZ 1 R' acW r.NM ∧ v = .tuple #[] ∧ cH = [(b0, .cells #[acW, iv r.number, .bool r.some_] e0)]) ∧ H' = cH ++ H) := by
 unfold D2 at hM
 refine aJ.aX Tryz.func110 rfl (n := 24) rfl rfl λ fr cs hk => ?_
 refine sq ?_
 refine At.gR hM (λ (LH : Bool) R' H' st' => R = R' ∧ H' = (b0, .cells #[Mg, iv x0.number, .bool x0.some_] e0) :: H ∧ aK st' [(0, .pointer (some ⟨b0, 0, none⟩)), (1, v1), (2, iv x2), (18, .bool LH)])  ?_ ?_
 rotate_right
 ·intro oO hM Y4
  refine At.rg BL ?_
  refine vs 1 ?_
  refine At.s rfl rfl (Ox.nilCheck rfl rfl rfl (.put rfl) ?_)
  refine vs 1 ?_
  refine ld 2 iS z0 ?_
  refine vs 2 ?_
  refine bA hM (λ kE hM => ?_) (λ kE hM => ?_)
  ·refine At.kn 11 kE ?_
   refine vs 7 ?_
   refine er ?_
   exact Y4 _ (af hM).symm _ _ _ ⟨rfl, rfl, aA.sub ⟨rfl, rfl, rfl, rfl, trivial⟩⟩
  refine At.kn 11 kE ?_
  refine vs 2 ?_
  refine At.s rfl rfl (Ox.nilCheck rfl rfl rfl (.put rfl) ?_)
  refine vs 1 ?_
  refine ld 1 bg z0 ?_
  refine vs 2 ?_
  refine er ?_
  exact Y4 _ (af hM).symm _ _ _ ⟨rfl, rfl, aA.sub ⟨rfl, rfl, rfl, rfl, trivial⟩⟩
 rintro LH aGB aEG aOb ⟨rfl, rfl, aqf⟩ hM
 refine At.sub aqf ?_
 refine sc hM (λ kF hM => ?_) (λ kF hM => ?_)
 ·refine At.rg dy ?_
  refine vs 3 ?_
  refine At.s rfl rfl (Ox.build (cells := #[_, _, _]) rfl azZ rfl (bf rfl h1.cells rfl rfl (bf rfl rfl rfl rfl (bf rfl rfl rfl rfl aY))) rfl (.put rfl) ?_)
  refine At.s rfl rfl (Ox.nilCheck rfl rfl rfl (.put rfl) ?_)
  refine At.s rfl rfl (Ox.bp (cs' := #[_, _, _]) rfl rfl rfl ahq rfl (ak h1.one (ak rfl (ak rfl aW))) .here rfl rfl rfl (.refl _) ?_)
  refine er ?_
  obtain rfl := af hM
  exact At.wN Tryz.func110 .nil (J.drop sr (hk _ _ _ ⟨_, ⟨(rr), v1, h1, rfl, rfl⟩, rfl⟩))
 refine sp ?_
 obtain rfl := af hM
 exact At.wN Tryz.func110 .nil (J.drop sr (hk _ _ _ ⟨_, ⟨(rr), Mg, akn, rfl, rfl⟩, rfl⟩))
theorem afy (x0 : aq) {aC aD aH : Value} (hG : fM R) (hK : y6 ag) (ay : aj bm 5 R aC x0.az) (aB : aj CZ 1 R aD x0.Out) (aF : aj bh 2 R aH x0.aO) {r : ((List Int) × Int × Int)} (hM : yC x0 = some r) : aJ ag 29 #[.agg #[iv x0.aE, iv x0.aa.an, iv x0.aa.ax, aC, aD, aH]] R H (λ v R' H' => aN R R' ∧ H = H' ∧ ∃ bU, aj CZ 1 R' bU r.1 ∧ v = .tuple #[bU, iv r.2.1, iv r.2.2]) := by
 unfold yC at hM
 refine aJ.aX Tryz.func29 rfl (n := 31) rfl rfl λ fr cs hk => ?_
 refine sg bn ?_
 refine bx λ e7 => ?_
 refine vs 3 ?_
 refine nx eC ?_
 refine lN [_, _, _, _, _, _] 0 6 aU z0 ?_
 obtain ⟨cJ, qG, hM⟩ := ao hM
 refine At.cv oe (oI x0 (λ y => mY y) hG ay aB aF ⟨90, #[], #[], rfl, E8, λ R' H' hR hH y r va hA hr => by obtain ⟨_, rfl, ⟨pZ, oN, p5, gv, fN, gw, rfl⟩⟩ := hA; exact (Hu y gv fN gw hr).mono λ _ _ _ ⟨h1, h2, h3⟩ => ⟨h1 ▸ rr, h2.symm, h3⟩⟩ qG) ?_
 rintro _ EK _ ⟨iz, aFS, MQ, MR, MS, U8, U9, sN, sO, sP, An, aaH, rfl, rfl⟩
 refine vs 3 ?_
 refine At.s rfl rfl (Ox.alloc (cs := #[iv 0, iv 0, iv 0, .slice none 0 0, .slice none 0 0, .slice none 0 0, .slice none 0 0, .map none]) rfl mT rfl λ kY _ _ => ⟨_, (.put rfl), ?_⟩)
 refine At.s rfl rfl (Ox.bp (cs' := #[_, _, _, _, _, _, _, _]) rfl rfl rfl eK rfl (ak rfl (ak rfl (ak rfl (ak sN.one (ak sO.one (ak sP.one (ak An.one (ak aaH.one aW)))))))) .here rfl rfl rfl (.refl _) ?_)
 refine vs 1 ?_
 refine es ?_
 refine sg aQ ?_
 refine vs 2 ?_
 refine er ?_
 refine sc hM (λ SR hM => ?_) (λ SR hM => ?_)
 ·refine sg bn ?_
  refine vs 4 ?_
  refine er ?_
  obtain rfl := af hM
  exact rt Tryz.func29 (.tmp rfl (.tmp rfl (.tmp rfl .nil))) (so (aP (so sr))) (hk _ _ _ ⟨iz, rfl, .slice none 0 0, aj.nil, rfl⟩)
 refine sp ?_
 refine sg aQ ?_
 refine lN [_, _, _, _, _, _, _, _] 0 8 eK z0 ?_
 obtain ⟨jA, uV, hM⟩ := ao hM
 refine At.step rfl rfl rfl (Ox.dO rfl rfl rfl rfl J0 rfl rfl ((aJ.hole (G := (λ X => (kY, _) :: X ++ ((e7, _) :: H))) (.cons .id) (hK cJ.1 sN sO sP An aaH uV)).mono ?_))
 rintro _ Jn _ ⟨_, ⟨jj, Rh, rfl, rfl⟩, rfl⟩
 replace sN := sN.mono jj
 replace sO := sO.mono jj
 replace sP := sP.mono jj
 replace An := An.mono jj
 refine ⟨_, (.put rfl), ?_⟩
 refine nx aL ?_
 refine At.s rfl rfl (Ox.alloc (cs := #[.slice none 0 0, iv 0, .bool false]) rfl aBA rfl λ uh _ _ => ⟨_, (.put rfl), ?_⟩)
 refine es ?_
 refine sg aS ?_
 refine vs 1 ?_
 refine lN [_, _, _, _, _, _] 0 6 ew z1 ?_
 refine At.s rfl rfl (Ox.makeFunc (vs := #[_]) (us := #[]) rfl rfl rfl rfl (.put rfl) ?_)
 refine er ?_
 refine At.block ?_
 refine At.drop (H' := (uh, .cells #[.slice none 0 0, iv 0, .bool false] 138) :: (kY, .cells #[iv cJ.1.book.aE, iv cJ.1.book.aa.an, iv cJ.1.book.aa.ax, MQ, MR, MS, U8, U9] 106) :: H) (sk (sk (so sr))) ?_
 refine At.HJ (A := (EP CZ 1)) (λ y s => rL y cJ.1.book s)  hM rfl Pr rfl rfl rfl (λ (eW : ((List Int) × Int × Bool)) R' T H' => aN Jn R' ∧ ∃ nK, aj CZ 1 R' nK eW.1 ∧ H' = (uh, .cells #[nK, iv eW.2.1, .bool eW.2.2] 138) :: (kY, .cells #[iv cJ.1.book.aE, iv cJ.1.book.aa.an, iv cJ.1.book.aa.ax, MQ, MR, MS, U8, U9] 106) :: T)  (λ eW R0 T0 H0 q => by obtain ⟨hR, nK, zu, rfl⟩ := q; exact ⟨(uh, .cells #[nK, iv eW.2.1, .bool eW.2.2] 138) :: (kY, .cells #[iv cJ.1.book.aE, iv cJ.1.book.aa.an, iv cJ.1.book.aa.ax, MQ, MR, MS, U8, U9] 106) :: [], by simp, λ R1 T1 h => ⟨hR.trans h, nK, zu.mono h, by simp⟩⟩)  (λ v Inv Hy z hY hI hz => (T6 hY cJ.1.book hI sN sO sP hz).mono λ _ _ _ h => ⟨h.1, h.2.1⟩) ⟨rr, .slice none 0 0, aj.nil, rfl⟩ ?_ ?_
 ·rintro r43 eW W1 aEX _ ⟨wV, nK, zu, rfl⟩ hM
  refine At.inBlock ?_
  refine sq ?_
  refine At.dw dY mixed ?_
  refine Any.vs 1 [0] rfl ?_
  refine tl 1 0 bL z0 ?_
  refine Any.vs 1 [2] rfl ?_
  refine tl 3 1 bg z0 ?_
  refine Any.vs 3 [4, 5, 6] rfl ?_
  refine Any.done ?_
  obtain rfl := af hM
  exact At.qW (.there (.there .here)) Tryz.func29 (.tmp rfl (.tmp rfl (.tmp rfl .nil))) (J.drop (so (so (so sr))) (hk _ _ _ ⟨((iz.trans jj).trans wV), rfl, nK, zu, rfl⟩))
 rintro aPF D7 eW W1 T43 H43 l43 aL0 aKH _ aK2 J7 ⟨wV, nK, zu, rfl⟩ aou z43 hM Jq
 replace Rh := Rh.mono wV
 replace sN := sN.mono wV
 replace sO := sO.mono wV
 replace sP := sP.mono wV
 replace An := An.mono wV
 refine At.rg aL ?_
 refine vs 1 ?_
 refine er ?_
 refine At.beginRound rfl rfl (.there (.there .here)) aou ?_
 refine At.block ?_
 refine At.rg bT ?_
 refine vs 1 ?_
 refine lN [_, _, _, _, _, _, _, _] 0 8 eK z1 ?_
 refine vs 1 ?_
 obtain ⟨ek, GK, hM⟩ := ao hM
 refine At.cv PM (Uo (⟨⟨cJ.1.book.aE, ⟨cJ.1.book.aa.an, cJ.1.book.aa.ax⟩, cJ.1.book.az, cJ.1.book.Out, cJ.1.book.aO⟩, cJ.1.dR, jA⟩ : cW) D7 sN sO sP An Rh J7 GK) ?_
 rintro _ Xn _ ⟨nu, rfl, rfl⟩
 replace zu := zu.mono nu
 replace J7 := J7.mono nu
 obtain ⟨ym, auZ, hM⟩ := ao hM
 refine At.step rfl rfl rfl (Ox.dO rfl rfl rfl rfl aie rfl rfl ((aJ.hole (G := (λ X => X ++ ((kY, _) :: (l43, _) :: T43))) (Hs := [(uh, _)]) .id (awM (⟨eW.1, eW.2.1, eW.2.2⟩ : an) D7 ek zu J7 auZ)).mono ?_))
 rintro _ aIK _ ⟨_, ⟨ZJ, aAY, au0, rfl, rfl⟩, rfl⟩
 refine ⟨_, (.put rfl), ?_⟩
 refine er ?_
 refine At.inBlock ?_
 exact Jq _ (af hM).symm _ _ _ (nu.trans ZJ) ⟨((wV.trans nu).trans ZJ), aAY, au0, rfl⟩
theorem T7 (x0 : aq) {aC aD aH : Value} (ay : aj bm 5 R aC x0.az) (aB : aj CZ 1 R aD x0.Out) (aF : aj bh 2 R aH x0.aO) {r : Bool} (hM : xH x0 = some r) : aJ ag 112 #[.agg #[iv x0.aE, iv x0.aa.an, iv x0.aa.ax, aC, aD, aH]] R H (λ v R' H' => aN R R' ∧ H = H' ∧ v = .bool r) := by
 unfold xH at hM
 refine aJ.aX Tryz.func112 rfl (n := 6) rfl rfl λ fr cs hk => ?_
 refine sg aQ ?_
 refine bx λ BY => ?_
 refine At.s rfl rfl (Ox.alloc (cs := #[.bool false]) rfl Vy rfl λ n9 _ _ => ⟨_, (.put rfl), ?_⟩)
 refine es ?_
 refine sg aQ ?_
 refine lN [_, _, _, _, _, _] 0 6 ew z1 ?_
 refine At.s rfl rfl (Ox.makeFunc (vs := #[_]) (us := #[]) rfl rfl rfl rfl (.put rfl) ?_)
 refine er ?_
 refine At.block ?_
 refine At.drop (H' := (n9, .cells #[.bool false] 4) :: H) (sk (so sr)) ?_
 refine At.UH (A := (jR fL)) (λ y s => pK y x0 s) .ret hM rfl PB rfl rfl rfl (λ (UL : Unit) R' T H' => aN R R' ∧ H' = (n9, .cells #[.bool false] 4) :: T) (λ (ab3 : Unit) R' T H' => aN R R' ∧ H' = (n9, .cells #[.bool true] 4) :: T) (λ UL R0 T0 H0 q => by obtain ⟨hR, rfl⟩ := q; exact ⟨(n9, .cells #[.bool false] 4) :: [], by simp, λ R1 T1 h => ⟨hR.trans h, by simp⟩⟩) (λ ab3 R0 T0 H0 q => by obtain ⟨hR, rfl⟩ := q; exact ⟨(n9, .cells #[.bool true] 4) :: [], by simp, λ R1 T1 h => ⟨hR.trans h, by simp⟩⟩) (λ v Inv Hy z hY hI hz => (Uf hY x0 hI ay aB aF hz).mono λ _ _ _ h => ⟨h.1, h.2.1⟩) ⟨rr, rfl⟩ ?_ ?_ ?_
 ·rintro r25 UL R25 afV _ ⟨Qd, rfl⟩ hM
  refine At.inBlock ?_
  refine sg aL ?_
  refine At.s rfl rfl (Ox.cM (cs' := #[_]) rfl rfl rfl iS rfl .here rfl rfl rfl (.refl _) ?_)
  refine er ?_
  obtain rfl := af hM
  exact At.qW (.there .here) Tryz.func112 (.one rfl iS ((aT.box z0).one (j := 0) rfl) .nil) (J.drop (so (so sr)) (hk _ _ _ ⟨Qd, rfl, rfl⟩))
 ·rintro r25 ab3 aGD afV _ ⟨akD, rfl⟩ hM
  obtain rfl := af hM
  exact At.qW (.there .here) Tryz.func112 (.one rfl iS ((aT.box z0).one (j := 0) rfl) .nil) (J.drop (so (so sr)) (hk _ _ _ ⟨akD, rfl, rfl⟩))
 rintro aPC aRh UL R25 T25 H25 l25 aLY aKE _ aK0 ⟨_, rfl, ⟨aL5, rfl⟩⟩ ⟨Qd, rfl⟩ aor z25 hM aIT ajp
 refine sp ?_
 refine At.beginRound rfl rfl (.there .here) aor ?_
 refine At.block ?_
 refine sg aL ?_
 refine At.s rfl rfl (Ox.cM (cs' := #[_]) rfl rfl rfl iS rfl .here rfl rfl rfl (.refl _) ?_)
 refine er ?_
 exact ajp _ (af hM).symm _ _ _ _ (rr) ⟨Qd, rfl⟩ (.inr (.inl ⟨_, rfl, rfl⟩))
theorem Ld (x0 : Int)  {r : Bool} (hM : xK x0 = some r) : aJ ag 176 #[iv x0] R H (λ v R' H' => R = R' ∧ H = H' ∧ v = .bool r) := by
 unfold xK at hM
 refine aJ.aX Tryz.func176 rfl (n := 6) rfl rfl λ fr cs hk => ?_
 refine sg aL ?_
 refine vs 1 ?_
 refine nx bn ?_
 refine vs 4 ?_
 refine er ?_
 obtain rfl := af hM
 exact rt Tryz.func176 (.tmp rfl .nil) sr (hk _ _ _ ⟨rfl, rfl, rfl⟩)
theorem axg (x0 : Int) (x1 : Int)  {r : Int} (hM : Hh x0 x1 = some r) : aJ ag 168 #[iv x0, iv x1] R H (λ v R' H' => R = R' ∧ H = H' ∧ v = iv r) := by
 unfold Hh at hM
 refine aJ.aX Tryz.func168 rfl (n := 20) rfl rfl λ fr cs hk => ?_
 refine sg aL ?_
 refine vs 1 ?_
 refine nx aS ?_
 refine vs 1 ?_
 obtain ⟨cJ, qG, hM⟩ := ao hM
 refine At.cv JX (Ld x0  qG) ?_
 rintro _ _ _ ⟨rfl, rfl, rfl⟩
 refine vs 1 ?_
 refine nx aS ?_
 refine vs 1 ?_
 obtain ⟨js, xo, hM⟩ := ao hM
 refine At.cv JX (Ld x1  xo) ?_
 rintro _ _ _ ⟨rfl, rfl, rfl⟩
 refine vs 1 ?_
 refine es ?_
 refine sg aL ?_
 refine vs 1 ?_
 refine er ?_
 refine sc hM (λ Gj hM => ?_) (λ Gj hM => ?_)
 ·refine sq ?_
  refine sg aL ?_
  refine vs 1 ?_
  refine er ?_
  refine sc hM (λ Ad hM => ?_) (λ Ad hM => ?_)
  ·refine sg aL ?_
   refine vs 1 ?_
   refine er ?_
   obtain rfl := af hM
   exact rt Tryz.func168 (.tmp rfl .nil) sr (hk _ _ _ ⟨rfl, rfl, rfl⟩)
  refine sp ?_
  refine sg aL ?_
  refine vs 1 ?_
  refine er ?_
  obtain rfl := af hM
  exact rt Tryz.func168 (.tmp rfl .nil) sr (hk _ _ _ ⟨rfl, rfl, rfl⟩)
 refine sp ?_
 refine sq ?_
 refine sg aL ?_
 refine vs 1 ?_
 refine er ?_
 refine sc hM (λ SS hM => ?_) (λ SS hM => ?_)
 ·refine sg aL ?_
  refine vs 1 ?_
  refine er ?_
  obtain rfl := af hM
  exact rt Tryz.func168 (.tmp rfl .nil) sr (hk _ _ _ ⟨rfl, rfl, rfl⟩)
 refine sp ?_
 refine sq ?_
 refine sg aS ?_
 refine vs 3 ?_
 refine er ?_
 refine sc hM (λ Ae hM => ?_) (λ Ae hM => ?_)
 ·refine sg aL ?_
  refine vs 1 ?_
  refine er ?_
  obtain rfl := af hM
  exact rt Tryz.func168 (.tmp rfl .nil) sr (hk _ _ _ ⟨rfl, rfl, rfl⟩)
 refine sp ?_
 refine sq ?_
 refine sg aS ?_
 refine vs 3 ?_
 refine er ?_
 refine sc hM (λ uN hM => ?_) (λ uN hM => ?_)
 ·refine sg aL ?_
  refine vs 1 ?_
  refine er ?_
  obtain rfl := af hM
  exact rt Tryz.func168 (.tmp rfl .nil) sr (hk _ _ _ ⟨rfl, rfl, rfl⟩)
 refine sp ?_
 refine sg aL ?_
 refine vs 1 ?_
 refine er ?_
 obtain rfl := af hM
 exact rt Tryz.func168 (.tmp rfl .nil) sr (hk _ _ _ ⟨rfl, rfl, rfl⟩)
theorem aw2 (x0 : (List Int)) (x1 : (List Int)) {v0 v1 : Value} (h0 : bC CZ 1 R H v0 x0) (h1 : bC CZ 1 R H v1 x1) {r : Int} (hM : He x0 x1 = some r) : aJ ag 153 #[v0, v1] R H (λ v R' H' => R = R' ∧ H = H' ∧ v = iv r) := by
 unfold He at hM
 refine aJ.aX Tryz.func153 rfl (n := 36) rfl rfl λ fr cs hk => ?_
 refine sg aL ?_
 refine vs 1 ?_
 refine es ?_
 refine sg aS ?_
 refine vs 1 ?_
 refine lr h0 Tryz.underlying25 ?_
 refine vs 1 ?_
 refine er ?_
 refine At.block ?_
 refine At.fh hM (λ (xW : Int) R' H' st' => R = R' ∧ H = H' ∧ aK st' [(0, v0), (1, v1), (9, v0), (10, iv (x0.length : Int)), (11, iv xW)]) (λ (Df : Unit) R' H' st' => R = R' ∧ H = H' ∧ aK st' [(0, v0), (1, v1)]) 0 rfl ⟨rfl, rfl, aA.sub ⟨rfl, rfl, rfl, rfl, rfl, trivial⟩⟩ ?_ ?_
 rotate_right
 ·rintro xW R52 H52 aOH ⟨rfl, rfl, aqL⟩ gb hM ahe Fc abS
  refine At.sub aqL ?_
  refine sg aL ?_
  refine vs 1 ?_
  refine es ?_
  refine sc hM (λ Aj hM => ?_) (λ Aj hM => ?_)
  ·refine sp ?_
   refine sq ?_
   refine At.block ?_
   refine sg bT ?_
   refine vs 1 ?_
   obtain ⟨nR, Au, hM⟩ := ao hM
   obtain ⟨aKi, aNe, _, rfl, ama, an2⟩ := h0.elem cL Au
   refine At.s rfl rfl (Ox.bq rfl rfl rfl an2 rfl (.put rfl) ?_)
   refine At.ld bg ((ama.sub pp).one (j := 0) rfl) ?_
   refine vs 2 ?_
   refine es ?_
   refine sg bn ?_
   refine vs 2 ?_
   refine lr h1 Tryz.underlying25 ?_
   refine vs 1 ?_
   refine er ?_
   refine sc hM (λ Al hM => ?_) (λ Al hM => ?_)
   ·refine sg aL ?_
    refine vs 1 ?_
    refine er ?_
    replace hM := abS _ (af hM).symm
    obtain rfl := af hM
    exact rt Tryz.func153 (.tmp rfl .nil) sr (hk _ _ _ ⟨rfl, rfl, rfl⟩)
   refine sp ?_
   refine sg bT ?_
   refine vs 2 ?_
   obtain ⟨nY, Cz, hM⟩ := ao hM
   obtain ⟨ahZ, ayD, _, rfl, QN, Q9⟩ := h1.elem cL Cz
   refine At.s rfl rfl (Ox.bq rfl rfl rfl Q9 rfl (.put rfl) ?_)
   refine At.ld bg ((QN.sub pp).one (j := 0) rfl) ?_
   refine vs 1 ?_
   refine nx bn ?_
   refine vs 2 ?_
   obtain ⟨vM, GR, hM⟩ := ao hM
   refine At.cv aiG (axg nR nY  GR) ?_
   rintro _ _ _ ⟨rfl, rfl, rfl⟩
   refine vs 1 ?_
   refine nx aQ ?_
   refine vs 2 ?_
   refine er ?_
   refine sc hM (λ SX hM => ?_) (λ SX hM => ?_)
   ·refine sg aQ ?_
    refine vs 2 ?_
    refine er ?_
    replace hM := abS _ (af hM).symm
    obtain rfl := af hM
    exact rt Tryz.func153 (.tmp rfl .nil) sr (hk _ _ _ ⟨rfl, rfl, rfl⟩)
   refine sp ?_
   refine At.inBlock ?_
   refine At.rg aQ ?_
   refine vs 2 ?_
   refine er ?_
   exact ahe _ (af hM).symm _ _ _ ⟨rfl, rfl, aA.sub ⟨rfl, rfl, rfl, rfl, rfl, trivial⟩⟩
  exact At.exit rfl (Fc _ (af hM).symm _ _ _ ⟨rfl, rfl, aA.sub ⟨rfl, rfl, trivial⟩⟩)
 rintro Df agC af3 azO ⟨rfl, rfl, RR⟩ hM
 refine At.sub RR ?_
 refine sq ?_
 refine sg bT ?_
 refine vs 1 ?_
 refine lr h0 Tryz.underlying25 ?_
 refine vs 1 ?_
 refine lr h1 Tryz.underlying25 ?_
 refine vs 1 ?_
 refine er ?_
 refine sc hM (λ asB hM => ?_) (λ asB hM => ?_)
 ·refine sg aL ?_
  refine vs 1 ?_
  refine er ?_
  obtain rfl := af hM
  exact rt Tryz.func153 (.tmp rfl .nil) sr (hk _ _ _ ⟨rfl, rfl, rfl⟩)
 refine sp ?_
 refine sg aL ?_
 refine vs 1 ?_
 refine er ?_
 obtain rfl := af hM
 exact rt Tryz.func153 (.tmp rfl .nil) sr (hk _ _ _ ⟨rfl, rfl, rfl⟩)
theorem awN (x0 : (List Int)) (x1 : (List Int)) {v0 v1 : Value} (h0 : bC CZ 1 R H v0 x0) (h1 : bC CZ 1 R H v1 x1) {r : Bool} (hM : BA x0 x1 = some r) : aJ ag 113 #[v0, v1] R H (λ v R' H' => R = R' ∧ H = H' ∧ v = .bool r) := by
 unfold BA at hM
 refine aJ.aX Tryz.func113 rfl (n := 23) rfl rfl λ fr cs hk => ?_
 refine sg aL ?_
 refine vs 1 ?_
 refine nx azf ?_
 refine vs 1 ?_
 refine lr h0 Tryz.underlying25 ?_
 refine vs 1 ?_
 refine lr h1 Tryz.underlying25 ?_
 refine vs 2 ?_
 refine bA hM (λ mB hM => ?_) (λ mB hM => ?_)
 ·refine At.kn 10 mB ?_
  refine vs 13 ?_
  refine er ?_
  obtain rfl := af hM
  exact rt Tryz.func113 (.tmp rfl .nil) sr (hk _ _ _ ⟨rfl, rfl, rfl⟩)
 refine At.kn 10 mB ?_
 refine vs 1 ?_
 refine lr h0 Tryz.underlying25 ?_
 refine vs 1 ?_
 refine lr h1 Tryz.underlying25 ?_
 refine vs 2 ?_
 refine bA hM (λ jH hM => ?_) (λ jH hM => ?_)
 ·refine At.kn 16 jH ?_
  refine vs 2 ?_
  obtain ⟨fQ, mD, hM⟩ := ao hM
  refine At.cv aiv (aw2 x0 x1 (h0.sub pp) (h1.sub pp) mD) ?_
  rintro _ _ _ ⟨rfl, rfl, rfl⟩
  refine vs 4 ?_
  refine er ?_
  obtain rfl := af hM
  exact rt Tryz.func113 (.tmp rfl .nil) sr (hk _ _ _ ⟨rfl, rfl, rfl⟩)
 refine At.kn 16 jH ?_
 refine vs 7 ?_
 refine er ?_
 obtain rfl := af hM
 exact rt Tryz.func113 (.tmp rfl .nil) sr (hk _ _ _ ⟨rfl, rfl, rfl⟩)
theorem aeU (x0 : aq) {aC aD aH : Value} (hG : fM R) (ay : aj bm 5 R aC x0.az) (aB : aj CZ 1 R aD x0.Out) (aF : aj bh 2 R aH x0.aO) {r : ((List Int) × Int)} (hM : tS x0 = some r) : aJ ag 31 #[.agg #[iv x0.aE, iv x0.aa.an, iv x0.aa.ax, aC, aD, aH]] R H (λ v R' H' => aN R R' ∧ H = H' ∧ ∃ bU, aj CZ 1 R' bU r.1 ∧ v = .tuple #[bU, iv r.2]) := by
 unfold tS at hM
 refine aJ.aX Tryz.func31 rfl (n := 86) rfl rfl λ fr cs hk => ?_
 refine sg aS ?_
 refine bx λ gH => ?_
 refine vs 2 ?_
 refine es ?_
 refine sg aS ?_
 refine lN [_, _, _, _, _, _] 0 6 aU z0 ?_
 obtain ⟨MY, atG, hM⟩ := ao hM
 refine At.cv uo (ve x0 hG ay aB aF atG) ?_
 rintro _ aIo _ ⟨zB, rfl, rfl⟩
 replace ay := ay.mono zB
 replace aB := aB.mono zB
 replace aF := aF.mono zB
 refine vs 1 ?_
 refine nx aQ ?_
 refine vs 2 ?_
 refine er ?_
 refine sc hM (λ ar0 hM => ?_) (λ ar0 hM => ?_)
 ·refine sg aS ?_
  refine vs 3 ?_
  refine er ?_
  obtain rfl := af hM
  exact rt Tryz.func31 (.tmp rfl (.tmp rfl .nil)) (so sr) (hk _ _ _ ⟨zB, rfl, .slice none 0 0, aj.nil, rfl⟩)
 refine sp ?_
 refine sg bn ?_
 refine lN [_, _, _, _, _, _] 0 6 aU z0 ?_
 refine At.s rfl rfl (Ox.build (cells := #[_, _, _, _, _, _]) rfl pV rfl (bf rfl rfl rfl rfl aY) rfl (.put rfl) ?_)
 refine At.s rfl rfl (Ox.alloc (cs := #[iv 0, iv 0, iv 0, .slice none 0 0, .slice none 0 0, .slice none 0 0]) rfl Vx rfl λ gI _ _ => ⟨_, (.put rfl), ?_⟩)
 refine At.s rfl rfl (Ox.bp (cs' := #[_, _, _, _, _, _]) rfl rfl rfl ew rfl (ak rfl (ak rfl (ak rfl (ak ay.one (ak aB.one (ak aF.one aW)))))) .here rfl rfl rfl (.refl _) ?_)
 refine es ?_
 refine sg aQ ?_
 refine lN [_, _, _, _, _, _] 0 6 ew z0 ?_
 obtain ⟨Im, Tb, hM⟩ := ao hM
 refine At.cv Pt (T7 x0 ay aB aF Tb) ?_
 rintro _ Xg _ ⟨Ck, rfl, rfl⟩
 replace ay := ay.mono Ck
 replace aB := aB.mono Ck
 replace aF := aF.mono Ck
 refine er ?_
 refine sc hM (λ Gb hM => ?_) (λ Gb hM => ?_)
 ·refine sg aQ ?_
  refine vs 2 ?_
  refine er ?_
  obtain rfl := af hM
  exact rt Tryz.func31 (.tmp rfl (.tmp rfl .nil)) (so (so sr)) (hk _ _ _ ⟨(zB.trans Ck), rfl, .slice none 0 0, aj.nil, rfl⟩)
 refine sp ?_
 refine sg aL ?_
 refine vs 1 ?_
 refine es ?_
 refine sg bT ?_
 refine vs 1 ?_
 refine ld 5 eu z1 ?_
 refine ls aF Tryz.underlying26 ?_
 obtain ⟨vL, Tc, hM⟩ := ao hM
 refine At.s rfl rfl (Ox.shl rfl rfl rfl Tc rfl (.put rfl) ?_)
 refine vs 1 ?_
 refine er ?_
 refine At.block ?_
 refine At.c8 hM (λ (dS : ((List (List Int)) × Int)) R' H' st' => aN Xg R' ∧ ∃ ya fu, aZ (ef CZ 1) 1 25 R' ya dS.1 fu ∧ H' = fu ++ ((gI, .cells #[iv x0.aE, iv x0.aa.an, iv x0.aa.ax, aC, aD, aH] 102) :: (gH, .cells #[iv x0.aE, iv x0.aa.an, iv x0.aa.ax, aC, aD, aH] 28) :: H) ∧ aK st' [(1, .pointer (some ⟨gH, 0, none⟩)), (5, .pointer (some ⟨gI, 0, none⟩)), (6, ya), (27, iv vL), (28, iv dS.2)]) (λ (lB : (List (List Int))) R' H' st' => aN Xg R' ∧ ∃ Mk rV, aZ (ef CZ 1) 1 25 R' Mk lB rV ∧ H' = rV ++ (H) ∧ aK st' [(6, Mk)]) 0 rfl ⟨rr, .slice none 0 0, [], aZ.nil, rfl, aA.sub ⟨rfl, rfl, rfl, rfl, rfl, trivial⟩⟩ ?_ ?_
 rotate_right
 ·rintro dS Jh afT azF ⟨Cd, ya, fu, uF, rfl, RI⟩ MZ hM Jp PO
  refine At.sub RI ?_
  replace ay := ay.mono Cd
  replace aB := aB.mono Cd
  replace aF := aF.mono Cd
  refine sg aL ?_
  refine vs 1 ?_
  refine es ?_
  refine sc hM (λ asi hM => ?_) (λ asi hM => ?_)
  ·refine sp ?_
   refine sq ?_
   refine At.block ?_
   refine sg aQ ?_
   refine vs 2 ?_
   refine nx aL ?_
   refine vs 1 ?_
   refine nx aS ?_
   refine lN [_, _, _, _, _, _] 0 6 ew (List.mem_append_right _ z0) ?_
   refine At.s rfl rfl (Ox.alloc (cs := #[iv 0, iv 0, iv 0, .slice none 0 0, .slice none 0 0, .slice none 0 0]) rfl Vx rfl λ iO _ _ => ⟨_, (.put rfl), ?_⟩)
   refine At.s rfl rfl (Ox.bp (cs' := #[_, _, _, _, _, _]) rfl rfl rfl ew rfl (ak rfl (ak rfl (ak rfl (ak ay.one (ak aB.one (ak aF.one aW)))))) .here rfl rfl rfl (.refl _) ?_)
   refine nx aS ?_
   refine vs 2 ?_
   refine At.s rfl rfl (Ox.cM (cs' := #[_, _, _, _, _, _]) rfl rfl rfl eu rfl .here rfl rfl rfl (.refl _) ?_)
   refine es ?_
   refine sg bn ?_
   refine vs 1 ?_
   refine At.ld eu ((aT.box (.tail _ (List.mem_append_right _ z1))).one (j := 5) rfl) ?_
   refine ls aF Tryz.underlying26 ?_
   refine vs 1 ?_
   refine er ?_
   refine At.block ?_
   refine At.c8 hM (λ (iT : ((List Int) × Int × (List bW))) R' H' st' => Jh = R' ∧ ∃ HS BQ vz qc, aZ CZ 1 3 R' HS iT.1 BQ ∧ aZ bh 2 47 R' vz iT.2.2 qc ∧ H' = BQ ++ (qc ++ ((iO, .cells #[iv x0.aE, iv x0.aa.an, iv x0.aa.ax, aC, aD, vz] 102) :: fu ++ ((gI, .cells #[iv x0.aE, iv x0.aa.an, iv x0.aa.ax, aC, aD, aH] 102) :: (gH, .cells #[iv x0.aE, iv x0.aa.an, iv x0.aa.ax, aC, aD, aH] 28) :: H))) ∧ aK st' [(1, .pointer (some ⟨gH, 0, none⟩)), (5, .pointer (some ⟨gI, 0, none⟩)), (6, ya), (7, iv dS.2), (8, HS), (9, .pointer (some ⟨iO, 0, none⟩)), (27, iv vL), (28, iv dS.2), (35, aH), (36, iv (x0.aO.length : Int)), (37, iv iT.2.1)]) (λ (xR : ((List Int) × (List bW))) R' H' st' => Jh = R' ∧ ∃ UY Ev UZ Ob, aZ CZ 1 3 R' UY xR.1 Ev ∧ aZ bh 2 47 R' UZ xR.2 Ob ∧ H' = Ev ++ (Ob ++ ((iO, .cells #[iv x0.aE, iv x0.aa.an, iv x0.aa.ax, aC, aD, UZ] 102) :: fu ++ ((gI, .cells #[iv x0.aE, iv x0.aa.an, iv x0.aa.ax, aC, aD, aH] 102) :: (gH, .cells #[iv x0.aE, iv x0.aa.an, iv x0.aa.ax, aC, aD, aH] 28) :: H))) ∧ aK st' [(1, .pointer (some ⟨gH, 0, none⟩)), (5, .pointer (some ⟨gI, 0, none⟩)), (6, ya), (8, UY), (9, .pointer (some ⟨iO, 0, none⟩)), (27, iv vL), (28, iv dS.2)]) 2 rfl ⟨rfl, .slice none 0 0, [], .slice none 0 0, [], aZ.nil, aZ.nil, rfl, aA.sub ⟨rfl, rfl, rfl, rfl, rfl, rfl, rfl, rfl, rfl, rfl, rfl, trivial⟩⟩ ?_ ?_
   rotate_right
   ·rintro iT aGJ aEO aOl ⟨rfl, HS, BQ, vz, qc, FP, FQ, rfl, aqp⟩ DQ hM XD ajs
    refine At.sub aqp ?_
    refine sg aL ?_
    refine vs 1 ?_
    refine es ?_
    refine sc hM (λ asj hM => ?_) (λ asj hM => ?_)
    ·refine sp ?_
     refine sq ?_
     refine At.block ?_
     refine sg dy ?_
     refine vs 1 ?_
     obtain ⟨mR, auH, hM⟩ := ao hM
     obtain ⟨aJP, aMS, _, rfl, alO, anD⟩ := aF.elem vr auH
     refine At.s rfl rfl (Ox.bq rfl rfl rfl anD rfl (.put rfl) ?_)
     refine At.s rfl rfl (Ox.bP (vs := [_, _]) rfl rfl mW rfl (alO.any.part (j := 0) (n := 2) rfl) rfl (.put rfl) ?_)
     refine At.s rfl rfl (Ox.alloc (cs := #[iv 0, iv 0]) rfl Vz rfl λ qh _ _ => ⟨_, (.put rfl), ?_⟩)
     refine vs 1 ?_
     refine At.s rfl rfl (Ox.bp (cs' := #[_, _]) rfl rfl rfl mW rfl (ak rfl (ak rfl aW)) .here rfl rfl rfl (.refl _) ?_)
     refine nx bT ?_
     refine vs 2 ?_
     obtain ⟨adI, auO, hM⟩ := ao hM
     refine At.s rfl rfl (Ox.shr rfl rfl rfl auO rfl (.put rfl) ?_)
     obtain ⟨Vl, auP, hM⟩ := ao hM
     refine At.s rfl rfl (Ox.bits rfl rfl rfl auP rfl (.put rfl) ?_)
     refine vs 1 ?_
     refine er ?_
     refine sc hM (λ asl hM => ?_) (λ asl hM => ?_)
     ·obtain ⟨Vm, To, hM⟩ := ao hM
      obtain ⟨Vn, Tp, hM⟩ := ao hM
      refine At.cut (λ R' H' st' => Jh = R' ∧ ∃ (tu : Value) (n7 : au) (tv : Value) (rX : au), aZ CZ 1 3 R' tu Vm n7 ∧ aZ bh 2 47 R' tv Vn rX ∧ H' = n7 ++ (rX ++ ((iO, .cells #[iv x0.aE, iv x0.aa.an, iv x0.aa.ax, aC, aD, tv] 102) :: fu ++ ((gI, .cells #[iv x0.aE, iv x0.aa.an, iv x0.aa.ax, aC, aD, aH] 102) :: (gH, .cells #[iv x0.aE, iv x0.aa.an, iv x0.aa.ax, aC, aD, aH] 28) :: H))) ∧ aK st' [(1, .pointer (some ⟨gH, 0, none⟩)), (5, .pointer (some ⟨gI, 0, none⟩)), (6, ya), (7, iv dS.2), (8, tu), (9, .pointer (some ⟨iO, 0, none⟩)), (27, iv vL), (28, iv dS.2), (35, aH), (36, iv (x0.aO.length : Int)), (37, iv iT.2.1)]) ?_ ?_
      ·rintro aHp aFB aPs ⟨rfl, tu, n7, tv, rX, zT, sF, rfl, arz⟩
       refine At.sub arz ?_
       refine At.inBlock ?_
       refine At.rg aQ ?_
       refine vs 2 ?_
       refine er ?_
       exact XD _ (af hM).symm _ _ _ ⟨rfl, tu, n7, tv, rX, zT, sF, rfl, aA.sub ⟨rfl, rfl, rfl, rfl, rfl, rfl, rfl, rfl, rfl, rfl, rfl, trivial⟩⟩
      intro Qy
      refine At.draw (n := 14) (is := [0, 1, 2, 3, 4, 5, 6, 7, 8, 9, 10, 11, 12, 13]) (many ((qh, .cells #[iv mR.dr, iv mR.dQ] 47) :: BQ ++ (qc ++ ((iO, .cells #[iv x0.aE, iv x0.aa.an, iv x0.aa.ax, aC, aD, vz] 102) :: fu ++ ((gI, .cells #[iv x0.aE, iv x0.aa.an, iv x0.aa.ax, aC, aD, aH] 102) :: (gH, .cells #[iv x0.aE, iv x0.aa.an, iv x0.aa.ax, aC, aD, aH] 28) :: H)))) [(3, (qh, .cells #[iv mR.dr, iv mR.dQ] 47) :: qc ++ ((iO, .cells #[iv x0.aE, iv x0.aa.an, iv x0.aa.ax, aC, aD, vz] 102) :: fu ++ ((gI, .cells #[iv x0.aE, iv x0.aa.an, iv x0.aa.ax, aC, aD, aH] 102) :: (gH, .cells #[iv x0.aE, iv x0.aa.an, iv x0.aa.ax, aC, aD, aH] 28) :: H))), (8, (qh, .cells #[iv mR.dr, iv mR.dQ] 47) :: qc ++ ((iO, .cells #[iv x0.aE, iv x0.aa.an, iv x0.aa.ax, aC, aD, vz] 102) :: fu ++ ((gI, .cells #[iv x0.aE, iv x0.aa.an, iv x0.aa.ax, aC, aD, aH] 102) :: (gH, .cells #[iv x0.aE, iv x0.aa.an, iv x0.aa.ax, aC, aD, aH] 28) :: H))), (9, (qh, .cells #[iv mR.dr, iv mR.dQ] 47) :: (iO, .cells #[iv x0.aE, iv x0.aa.an, iv x0.aa.ax, aC, aD, vz] 102) :: fu ++ ((gI, .cells #[iv x0.aE, iv x0.aa.an, iv x0.aa.ax, aC, aD, aH] 102) :: (gH, .cells #[iv x0.aE, iv x0.aa.an, iv x0.aa.ax, aC, aD, aH] 28) :: H)), (13, (qh, .cells #[iv mR.dr, iv mR.dQ] 47) :: fu ++ ((gI, .cells #[iv x0.aE, iv x0.aa.an, iv x0.aa.ax, aC, aD, aH] 102) :: (gH, .cells #[iv x0.aE, iv x0.aa.an, iv x0.aa.ax, aC, aD, aH] 28) :: H))]) mixed rfl (by decide +kernel) rfl rfl ?_
      refine Any.vs 4 [0, 1, 4, 5] rfl ?_
      refine ts 6 [9, 10, 11, 12, 13] rfl (Hw (su (so (aP (sk (aP (so (so sr))))))) (Hw (su (so (aP (sk (aP (so (so sr))))))) (cq rfl (cq rfl (dm (su (so (aP (aP (sk (aP (so (so sr))))))))))))) (su (so (aP (aP (sk (aP (so (so sr)))))))) (λ R' H' hR hS => Ox.bV rfl rfl eu ((aT.box (hS _ z0)).one (j := 5) rfl) rfl (.one rfl) ⟨rfl, rfl, rfl⟩) ?_
      refine ts 7 [8, 9, 10, 11, 12, 13] rfl (Hw (su (sk (aP (so (aP (so (so sr))))))) (cq rfl (cq rfl (cq rfl (dm (su (sk (aP (aP (so (aP (so (so sr))))))))))))) (su (sk (aP (aP (so (aP (so (so sr)))))))) (λ R' H' hR hS => Ox.bP (vs := [_, _]) rfl rfl mW rfl ((aT.box (hS _ z0)).part (j := 0) (n := 2) rfl) rfl (.one rfl) ⟨rfl, rfl, rfl⟩) ?_
      refine tw 2 8 ?_ ?_
      ·refine  (aR.to (Ox.buildSlice (cells := #[_]) rfl ck rfl (by decide) cS (bf rfl rfl rfl rfl aY) rfl λ zg _ _ => ⟨_, (.put rfl), ⟨rr, (bO rfl (su (so sr))), ?_⟩⟩))
       refine tw 3 8 ?_ ?_
       ·refine  (aR.to (Ox.append (K := CZ) (λ X => (zg, _) :: (qh, _) :: X ++ (qc ++ ((iO, _) :: fu ++ ((gI, _) :: (gH, _) :: H)))) rfl rfl rfl cR Tryz.underlying25 (by simp) (.cons (.cons .id)) FP (cE.lit z0 (aG.le (aG.cons (x := iT.2.1) rfl rfl aG.nil) rfl) rfl) To rfl λ tu n7 zT => ⟨_, (.put rfl), ⟨rr, (bO rfl (su (so (sk (aP sr))))), ?_⟩⟩))
        refine Any.on 8 rfl rfl (aR.to (Ox.buildSlice (cells := #[_, _]) rfl o9 rfl (by decide) uj (bf rfl rfl rfl rfl aY) rfl λ zh _ _ => ⟨_, (.put rfl), ⟨rr, (bO rfl (su (so (so (sk (aP sr)))))), ?_⟩⟩))
        refine Any.on 9 rfl rfl (aR.to (Ox.append (K := bh) (λ X => (zh, _) :: (zg, _) :: (qh, _) :: n7 ++ (X ++ ((iO, _) :: fu ++ ((gI, _) :: (gH, _) :: H)))) rfl rfl rfl n8 Tryz.underlying26 (by simp) (.cons (.cons (.cons (.app .id)))) FQ (cE.lit z0 (aG.le (aG.cons (x := mR) rfl rfl aG.nil) rfl) rfl) Tp rfl λ tv rX sF => ⟨_, (.put rfl), ⟨rr, (bO rfl (su (so (so (sk (aP (aP sr))))))), ?_⟩⟩))
        refine Any.vs 3 [10, 11, 12] rfl ?_
        refine Any.on 13 rfl rfl (aR.to (Ox.cM (cs' := #[_, _, _, _, _, _]) rfl rfl rfl eu sF.one (.there (.there (.there (.skip (.skip .here))))) rfl rfl rfl (.refl _) ⟨rr, (bO rfl (su (so (so (sk (aP (aP (so sr)))))))), ?_⟩))
        exact Any.done (At.drop (so (so (so sr))) (Qy _ _ _ ⟨rfl, tu, n7, tv, rX, zT, sF, rfl, aA.sub ⟨rfl, rfl, rfl, rfl, rfl, rfl, rfl, rfl, rfl, rfl, rfl, trivial⟩⟩))
       refine  (aR.to (Ox.buildSlice (cells := #[_, _]) rfl o9 rfl (by decide) uj (bf rfl rfl rfl rfl aY) rfl λ zh _ _ => ⟨_, (.put rfl), ⟨rr, (bO rfl (su (so (so (sk (aP sr)))))), ?_⟩⟩))
       refine Any.on 3 rfl rfl (aR.to (Ox.append (K := CZ) (λ X => (zh, _) :: (zg, _) :: (qh, _) :: X ++ (qc ++ ((iO, _) :: fu ++ ((gI, _) :: (gH, _) :: H)))) rfl rfl rfl cR Tryz.underlying25 (by simp) (.cons (.cons (.cons .id))) FP (cE.lit z1 (aG.le (aG.cons (x := iT.2.1) rfl rfl aG.nil) rfl) rfl) To rfl λ tu n7 zT => ⟨_, (.put rfl), ⟨rr, (bO rfl (su (so (so (sk (aP sr)))))), ?_⟩⟩))
       refine Any.on 9 rfl rfl (aR.to (Ox.append (K := bh) (λ X => (zh, _) :: (zg, _) :: (qh, _) :: n7 ++ (X ++ ((iO, _) :: fu ++ ((gI, _) :: (gH, _) :: H)))) rfl rfl rfl n8 Tryz.underlying26 (by simp) (.cons (.cons (.cons (.app .id)))) FQ (cE.lit z0 (aG.le (aG.cons (x := mR) rfl rfl aG.nil) rfl) rfl) Tp rfl λ tv rX sF => ⟨_, (.put rfl), ⟨rr, (bO rfl (su (so (so (sk (aP (aP sr))))))), ?_⟩⟩))
       refine Any.vs 3 [10, 11, 12] rfl ?_
       refine Any.on 13 rfl rfl (aR.to (Ox.cM (cs' := #[_, _, _, _, _, _]) rfl rfl rfl eu sF.one (.there (.there (.there (.skip (.skip .here))))) rfl rfl rfl (.refl _) ⟨rr, (bO rfl (su (so (so (sk (aP (aP (so sr)))))))), ?_⟩))
       exact Any.done (At.drop (so (so (so sr))) (Qy _ _ _ ⟨rfl, tu, n7, tv, rX, zT, sF, rfl, aA.sub ⟨rfl, rfl, rfl, rfl, rfl, rfl, rfl, rfl, rfl, rfl, rfl, trivial⟩⟩))
      refine  (aR.to (Ox.buildSlice (cells := #[_, _]) rfl o9 rfl (by decide) uj (bf rfl rfl rfl rfl aY) rfl λ zh _ _ => ⟨_, (.put rfl), ⟨rr, (bO rfl (su (so (sk (aP sr))))), ?_⟩⟩))
      refine Any.on 2 rfl rfl (aR.to (Ox.buildSlice (cells := #[_]) rfl ck rfl (by decide) cS (bf rfl rfl rfl rfl aY) rfl λ zg _ _ => ⟨_, (.put rfl), ⟨rr, (bO rfl (su (so (so sr)))), ?_⟩⟩))
      refine Any.on 3 rfl rfl (aR.to (Ox.append (K := CZ) (λ X => (zg, _) :: (zh, _) :: (qh, _) :: X ++ (qc ++ ((iO, _) :: fu ++ ((gI, _) :: (gH, _) :: H)))) rfl rfl rfl cR Tryz.underlying25 (by simp) (.cons (.cons (.cons .id))) FP (cE.lit z0 (aG.le (aG.cons (x := iT.2.1) rfl rfl aG.nil) rfl) rfl) To rfl λ tu n7 zT => ⟨_, (.put rfl), ⟨rr, (bO rfl (su (so (so (sk (aP sr)))))), ?_⟩⟩))
      refine Any.on 9 rfl rfl (aR.to (Ox.append (K := bh) (λ X => (zg, _) :: (zh, _) :: (qh, _) :: n7 ++ (X ++ ((iO, _) :: fu ++ ((gI, _) :: (gH, _) :: H)))) rfl rfl rfl n8 Tryz.underlying26 (by simp) (.cons (.cons (.cons (.app .id)))) FQ (cE.lit z1 (aG.le (aG.cons (x := mR) rfl rfl aG.nil) rfl) rfl) Tp rfl λ tv rX sF => ⟨_, (.put rfl), ⟨rr, (bO rfl (su (so (so (sk (aP (aP sr))))))), ?_⟩⟩))
      refine Any.vs 3 [10, 11, 12] rfl ?_
      refine Any.on 13 rfl rfl (aR.to (Ox.cM (cs' := #[_, _, _, _, _, _]) rfl rfl rfl eu sF.one (.there (.there (.there (.skip (.skip .here))))) rfl rfl rfl (.refl _) ⟨rr, (bO rfl (su (so (so (sk (aP (aP (so sr)))))))), ?_⟩))
      exact Any.done (At.drop (so (so (so sr))) (Qy _ _ _ ⟨rfl, tu, n7, tv, rX, zT, sF, rfl, aA.sub ⟨rfl, rfl, rfl, rfl, rfl, rfl, rfl, rfl, rfl, rfl, rfl, trivial⟩⟩))
     refine sp ?_
     refine At.inBlock ?_
     refine At.rg aQ ?_
     refine vs 2 ?_
     refine er ?_
     exact At.drop (so sr) (XD _ (af hM).symm _ _ _ ⟨rfl, HS, BQ, vz, qc, FP, FQ, rfl, aA.sub ⟨rfl, rfl, rfl, rfl, rfl, rfl, rfl, rfl, rfl, rfl, rfl, trivial⟩⟩)
    exact At.exit rfl (ajs _ (af hM).symm _ _ _ ⟨rfl, HS, BQ, vz, qc, FP, FQ, rfl, aA.sub ⟨rfl, rfl, rfl, rfl, rfl, rfl, rfl, trivial⟩⟩)
   rintro xR aGK aEP aOm ⟨rfl, UY, Ev, UZ, Ob, Cq, aoJ, rfl, aqq⟩ hM
   refine At.sub aqq ?_
   refine sg aS ?_
   refine At.s rfl rfl (Ox.bP (vs := [_, _, _, _, _, _]) rfl rfl ew rfl ((aT.box (List.mem_append_right _ (List.mem_append_right _ z0))).part (j := 0) (n := 6) rfl) rfl (.put rfl) ?_)
   refine At.dB (H2 := Ev ++ ((iO, _) :: fu ++ ((gI, _) :: (gH, _) :: H))) (λ X => Ev ++ (X ++ ((iO, _) :: fu ++ ((gI, _) :: (gH, _) :: H)))) (.app .id) rfl aoJ (λ aHQ Cj amF => ?_)
   replace ay := ay.mono Cj
   replace aB := aB.mono Cj
   replace uF := uF.mono Cj
   replace Cq := Cq.mono Cj
   obtain ⟨DS, Tq, hM⟩ := ao hM
   refine At.cv Pt (T7 (⟨x0.aE, ⟨x0.aa.an, x0.aa.ax⟩, x0.az, x0.Out, xR.2⟩ : aq) ay aB amF Tq) ?_
   rintro _ aIH _ ⟨Kq, rfl, rfl⟩
   replace uF := uF.mono Kq
   replace Cq := Cq.mono Kq
   refine vs 1 ?_
   refine er ?_
   refine sc hM (λ asm hM => ?_) (λ asm hM => ?_)
   ·refine At.rg bT ?_
    refine vs 2 ?_
    refine At.dB (H2 := (iO, _) :: fu ++ ((gI, _) :: (gH, _) :: H)) (λ X => X ++ ((iO, _) :: fu ++ ((gI, _) :: (gH, _) :: H))) .id rfl Cq (λ aHR ZF amG => ?_)
    replace uF := uF.mono ZF
    refine At.s rfl rfl (Ox.buildSlice (cells := #[_]) rfl si rfl (by decide) r9 (bf rfl Cq.cells rfl rfl aY) rfl λ ahE _ _ => ⟨_, (.put rfl), ?_⟩)
    obtain ⟨Bp, Tr, hM⟩ := ao hM
    refine At.s rfl rfl (Ox.append (K := (ef CZ 1)) (λ X => (ahE, _) :: (iO, _) :: X ++ ((gI, _) :: (gH, _) :: H)) rfl rfl rfl zd Tryz.underlying135 (by simp) (.cons (.cons .id)) uF (cE.lit z0 (aG.le (aG.cons (x := xR.1) ⟨_, rfl, amG⟩ rfl aG.nil) rfl) rfl) Tr rfl λ aAK age apd => ⟨_, (.put rfl), ?_⟩)
    refine vs 1 ?_
    refine er ?_
    refine At.inBlock ?_
    refine At.rg aQ ?_
    refine vs 2 ?_
    refine er ?_
    exact At.drop (so (so sr)) (Jp _ (af hM).symm _ _ _ ⟨(((Cd.trans Cj).trans Kq).trans ZF), aAK, age, apd, rfl, aA.sub ⟨rfl, rfl, rfl, rfl, rfl, trivial⟩⟩)
   refine sp ?_
   refine At.inBlock ?_
   refine At.rg aQ ?_
   refine vs 2 ?_
   refine er ?_
   exact At.drop (aP (so sr)) (Jp _ (af hM).symm _ _ _ ⟨((Cd.trans Cj).trans Kq), ya, fu, uF, rfl, aA.sub ⟨rfl, rfl, rfl, rfl, rfl, trivial⟩⟩)
  exact At.exit rfl (At.drop (eD (so (so sr))) (PO _ (af hM).symm _ _ _ ⟨Cd, ya, fu, uF, rfl, aA.sub ⟨rfl, trivial⟩⟩))
 rintro lB OD afU azG ⟨Zx, Mk, rV, Rk, rfl, RJ⟩ hM
 refine At.sub RJ ?_
 refine sg bn ?_
 refine vs 1 ?_
 obtain ⟨DT, Ts, hM⟩ := ao hM
 obtain ⟨ahR, ayw, _, ⟨aAL, rfl, auT⟩, QG, Q2⟩ := (Rk.rd (λ _ h => (List.mem_append_left _ h))).elem jL Ts
 refine At.s rfl rfl (Ox.bq rfl rfl rfl Q2 rfl (.put rfl) ?_)
 refine At.ld bL ((QG.sub pp).one (j := 0) rfl) ?_
 refine vs 1 ?_
 refine es ?_
 refine sg aS ?_
 refine vs 1 ?_
 refine At.s rfl rfl (Ox.u0 rfl rfl Rk Tryz.underlying135 rfl (.put rfl) ?_)
 refine vs 1 ?_
 refine er ?_
 refine At.block ?_
 refine At.c8 hM (λ (pS : ((List Int) × Int)) R' H' st' => OD = R' ∧ ∃ HT, aj CZ 1 R' HT pS.1 ∧ H' = rV ++ (H) ∧ aK st' [(12, HT), (71, Mk), (72, iv (lB.length : Int)), (73, iv pS.2)]) (λ (HF : (List Int)) R' H' st' => OD = R' ∧ ∃ Mm, aj CZ 1 R' Mm HF ∧ H = H' ∧ aK st' [(12, Mm)]) 4 rfl ⟨rfl, aAL, auT, rfl, aA.sub ⟨rfl, rfl, rfl, rfl, trivial⟩⟩ ?_ ?_
 rotate_right
 ·rintro pS aGN aER aOo ⟨rfl, HT, P3, rfl, aqs⟩ adK hM XE aju
  refine At.sub aqs ?_
  refine sg aL ?_
  refine vs 1 ?_
  refine es ?_
  refine sc hM (λ asp hM => ?_) (λ asp hM => ?_)
  ·refine sp ?_
   refine sq ?_
   refine At.block ?_
   refine sg aS ?_
   obtain ⟨Na, auW, hM⟩ := ao hM
   obtain ⟨aJY, aMX, _, ⟨aAQ, rfl, aaL⟩, alT, anK⟩ := (Rk.rd (λ _ h => (List.mem_append_left _ h))).elem jL auW
   refine At.s rfl rfl (Ox.bq rfl rfl rfl anK rfl (.put rfl) ?_)
   refine At.ld bL ((alT.sub pp).one (j := 0) rfl) ?_
   refine vs 1 ?_
   refine nx aS ?_
   refine vs 2 ?_
   obtain ⟨adL, auX, hM⟩ := ao hM
   refine At.cv aif (awN Na pS.1 aaL.rd P3.rd auX) ?_
   rintro _ _ _ ⟨rfl, rfl, rfl⟩
   refine er ?_
   refine sc hM (λ asq hM => ?_) (λ asq hM => ?_)
   ·refine At.rg aQ ?_
    refine vs 2 ?_
    refine er ?_
    refine At.inBlock ?_
    refine At.rg aQ ?_
    refine vs 2 ?_
    refine er ?_
    exact XE _ (af hM).symm _ _ _ ⟨rfl, aAQ, aaL, rfl, aA.sub ⟨rfl, rfl, rfl, rfl, trivial⟩⟩
   refine sp ?_
   refine At.inBlock ?_
   refine At.rg aQ ?_
   refine vs 2 ?_
   refine er ?_
   exact XE _ (af hM).symm _ _ _ ⟨rfl, HT, P3, rfl, aA.sub ⟨rfl, rfl, rfl, rfl, trivial⟩⟩
  exact At.exit rfl (At.drop (aP sr) (aju _ (af hM).symm _ _ _ ⟨rfl, HT, P3, rfl, aA.sub ⟨rfl, trivial⟩⟩))
 rintro HF aGO aES aOp ⟨rfl, Mm, Zl, rfl, aqt⟩ hM
 refine At.sub aqt ?_
 refine sq ?_
 refine sg aS ?_
 refine vs 1 ?_
 refine ls Zl Tryz.underlying25 ?_
 refine vs 1 ?_
 refine er ?_
 refine sc hM (λ asr hM => ?_) (λ asr hM => ?_)
 ·refine sg aQ ?_
  refine vs 2 ?_
  refine er ?_
  obtain rfl := af hM
  exact rt Tryz.func31 (.tmp rfl (.tmp rfl .nil)) sr (hk _ _ _ ⟨((zB.trans Ck).trans Zx), rfl, .slice none 0 0, aj.nil, rfl⟩)
 refine sp ?_
 refine sg aS ?_
 refine vs 3 ?_
 refine er ?_
 obtain rfl := af hM
 exact rt Tryz.func31 (.tmp rfl (.tmp rfl .nil)) sr (hk _ _ _ ⟨((zB.trans Ck).trans Zx), rfl, Mm, Zl, rfl⟩)
theorem afz (x0 : aq) {aC aD aH : Value} (hG : fM R) (ay : aj bm 5 R aC x0.az) (aB : aj CZ 1 R aD x0.Out) (aF : aj bh 2 R aH x0.aO) {r : (Int × Int × Int)} (hM : yD x0 = some r) : aJ ag 33 #[.agg #[iv x0.aE, iv x0.aa.an, iv x0.aa.ax, aC, aD, aH]] R H (λ v R' H' => aN R R' ∧ H = H' ∧ v = .tuple #[iv r.1, iv r.2.1, iv r.2.2]) := by
 unfold yD at hM
 refine aJ.aX Tryz.func33 rfl (n := 63) rfl rfl λ fr cs hk => ?_
 refine sg bn ?_
 refine bx λ aIX => ?_
 refine vs 3 ?_
 refine nx eC ?_
 refine lN [_, _, _, _, _, _] 0 6 aU z0 ?_
 obtain ⟨dh, IB, hM⟩ := ao hM
 refine At.cv oe (oI x0 (λ y => mY y) hG ay aB aF ⟨90, #[], #[], rfl, E8, λ R' H' hR hH y r va hA hr => by obtain ⟨_, rfl, ⟨pZ, oN, p5, gv, fN, gw, rfl⟩⟩ := hA; exact (Hu y gv fN gw hr).mono λ _ _ _ ⟨h1, h2, h3⟩ => ⟨h1 ▸ rr, h2.symm, h3⟩⟩ IB) ?_
 rintro _ DX _ ⟨Ej, n6, vB, vC, vD, ry, vE, as2, as3, as4, KI, as5, rfl, rfl⟩
 replace ay := ay.mono Ej
 refine vs 3 ?_
 refine At.s rfl rfl (Ox.alloc (cs := #[iv 0, iv 0, iv 0, .slice none 0 0, .slice none 0 0, .slice none 0 0, .slice none 0 0, .map none]) rfl mT rfl λ kq _ _ => ⟨_, (.put rfl), ?_⟩)
 refine At.s rfl rfl (Ox.bp (cs' := #[_, _, _, _, _, _, _, _]) rfl rfl rfl eK rfl (ak rfl (ak rfl (ak rfl (ak as2.one (ak as3.one (ak as4.one (ak KI.one (ak as5.one aW)))))))) .here rfl rfl rfl (.refl _) ?_)
 refine vs 1 ?_
 refine es ?_
 refine sg aQ ?_
 refine vs 2 ?_
 refine er ?_
 refine sc hM (λ aal hM => ?_) (λ aal hM => ?_)
 ·refine sg bn ?_
  refine vs 4 ?_
  refine er ?_
  obtain rfl := af hM
  exact rt Tryz.func33 (.tmp rfl (.tmp rfl (.tmp rfl .nil))) (so (aP (so sr))) (hk _ _ _ ⟨Ej, rfl, rfl⟩)
 refine sp ?_
 refine sq ?_
 refine At.dw bT mixed ?_
 refine Any.vs 1 [0] rfl ?_
 refine tl 1 6 qT z0 ?_
 refine Any.tk 2 rfl pp (λ R' H' hR hS => Ox.tP (K := fL) (k := 6) (xs := dh.1.dR) rfl rfl (KI.mono hR) Tryz.underlying103 rfl (.one rfl) ⟨rfl, rfl, rfl⟩) ?_
 refine Any.vs 2 [3, 4] rfl ?_
 refine Any.done ?_
 refine sg aQ ?_
 refine At.s rfl rfl (Ox.axR rfl rfl λ ye WJ apy => ⟨_, (.put rfl), ?_⟩)
 refine vs 1 ?_
 refine es ?_
 refine sg bn ?_
 refine vs 1 ?_
 refine At.ld cK ((aT.box (List.mem_append_right _ (.tail _ (List.mem_append_right _ z0)))).one (j := 3) rfl) ?_
 refine ls ay Tryz.underlying24 ?_
 refine vs 1 ?_
 refine er ?_
 refine At.block ?_
 refine At.drop (H' := WJ ++ ((kq, .cells #[iv dh.1.book.aE, iv dh.1.book.aa.an, iv dh.1.book.aa.ax, vB, vC, vD, ry, vE] 106) :: n6 ++ (H))) (eD (sk (eD (so sr)))) ?_
 refine At.c8 hM (λ (cT : (Int × Int × (Int → Int → Int) × Int)) R' H' st' => DX = R' ∧ ∃ IW, ue ye cT.2.2.1 IW ∧ H' = IW ++ ((kq, .cells #[iv dh.1.book.aE, iv dh.1.book.aa.an, iv dh.1.book.aa.ax, vB, vC, vD, ry, vE] 106) :: n6 ++ (H)) ∧ aK st' [(2, iv cT.1), (3, iv cT.2.1), (5, .pointer (some ⟨kq, 0, none⟩)), (6, ye), (26, iv (x0.az.length : Int)), (27, iv cT.2.2.2)]) (λ (C8 : (Int × Int)) R' H' st' => DX = R' ∧ H = H' ∧ aK st' [(2, iv C8.1), (3, iv C8.2)]) 0 rfl ⟨rfl, WJ, apy, rfl, aA.sub ⟨rfl, rfl, rfl, rfl, rfl, rfl, trivial⟩⟩ ?_ ?_
 rotate_right
 ·rintro cT aGb aEf aNI ⟨rfl, IW, apw, rfl, apM⟩ aQ9 hM XA aje
  refine At.sub apM ?_
  refine sg aL ?_
  refine vs 1 ?_
  refine es ?_
  refine sc hM (λ Gc hM => ?_) (λ Gc hM => ?_)
  ·refine sp ?_
   refine sq ?_
   refine At.block ?_
   refine sg aQ ?_
   refine vs 2 ?_
   refine nx aL ?_
   refine vs 1 ?_
   refine es ?_
   refine sg bn ?_
   refine vs 1 ?_
   refine ld 6 qT (List.mem_append_right _ z0) ?_
   refine ls KI Tryz.underlying103 ?_
   refine vs 1 ?_
   refine er ?_
   refine At.block ?_
   refine At.c8 hM (λ (dS : ((Int → Int → Int) × Int × Int)) R' H' st' => DX = R' ∧ ∃ fu, ue ye dS.1 fu ∧ H' = fu ++ ((kq, .cells #[iv dh.1.book.aE, iv dh.1.book.aa.an, iv dh.1.book.aa.ax, vB, vC, vD, ry, vE] 106) :: n6 ++ (H)) ∧ aK st' [(2, iv cT.1), (3, iv cT.2.1), (5, .pointer (some ⟨kq, 0, none⟩)), (6, ye), (7, iv cT.2.2.2), (8, iv dS.2.1), (26, iv (x0.az.length : Int)), (27, iv cT.2.2.2), (31, ry), (32, iv (dh.1.dR.length : Int)), (33, iv dS.2.2)]) (λ (lB : ((Int → Int → Int) × Int)) R' H' st' => DX = R' ∧ ∃ rV, ue ye lB.1 rV ∧ H' = rV ++ ((kq, .cells #[iv dh.1.book.aE, iv dh.1.book.aa.an, iv dh.1.book.aa.ax, vB, vC, vD, ry, vE] 106) :: n6 ++ (H)) ∧ aK st' [(2, iv cT.1), (3, iv cT.2.1), (5, .pointer (some ⟨kq, 0, none⟩)), (6, ye), (7, iv cT.2.2.2), (8, iv lB.2), (26, iv (x0.az.length : Int)), (27, iv cT.2.2.2)]) 2 rfl ⟨rfl, IW, apw, rfl, aA.sub ⟨rfl, rfl, rfl, rfl, rfl, rfl, rfl, rfl, rfl, rfl, rfl, trivial⟩⟩ ?_ ?_
   rotate_right
   ·rintro dS Jh afT azF ⟨rfl, fu, KF, rfl, RI⟩ MZ hM Jp PO
    refine At.sub RI ?_
    refine sg aL ?_
    refine vs 1 ?_
    refine es ?_
    refine sc hM (λ Ge hM => ?_) (λ Ge hM => ?_)
    ·refine sp ?_
     refine sq ?_
     refine At.block ?_
     refine sg bn ?_
     obtain ⟨tE, atT, hM⟩ := ao hM
     obtain ⟨aJH, aMN, _, ⟨G4, rfl⟩, alK, anw⟩ := KI.elem L7 atT
     refine At.s rfl rfl (Ox.bq rfl rfl rfl anw rfl (.put rfl) ?_)
     refine At.s rfl rfl (Ox.bP (vs := _) rfl rfl eP (by simp [G4]) (alK.any.part (j := 0) (n := 6) (eE (by simp [G4]))) rfl (.put rfl) ?_)
     refine At.s rfl rfl (Ox.alloc (cs := (List.toArray ([iv 0] ++ ([0, 0, 0, 0, 0].map (Value.int .i64) ++ [])))) rfl yo rfl λ ug _ _ => ⟨_, (.put rfl), ?_⟩)
     refine At.s rfl rfl (Ox.bp (cs' := _) rfl rfl rfl eP (by simp [G4]) (cr (ak rfl aW) (cr (eM λ _ => rfl) aW)) .here (by simp) (eB (by simp [G4])) rfl (.refl _) ?_)
     refine nx eC ?_
     refine vs 3 ?_
     obtain ⟨ga, KJ, hM⟩ := ao hM
     refine At.s rfl rfl (Ox.bq rfl rfl rfl (sW EX G4 KJ) rfl (.put rfl) ?_)
     refine At.ld bg ((aT.box z0).arr KJ rfl) ?_
     refine At.s rfl rfl (Ox.build (cells := #[_, _]) rfl az0 rfl (bf rfl rfl rfl rfl (bf rfl rfl rfl rfl aY)) rfl (.put rfl) ?_)
     refine At.s rfl rfl (Ox.alloc (cs := #[iv 0, iv 0]) rfl aBB rfl λ r5 _ _ => ⟨_, (.put rfl), ?_⟩)
     refine At.s rfl rfl (Ox.bp (cs' := #[_, _]) rfl rfl rfl OU rfl (ak rfl (ak rfl aW)) .here rfl rfl rfl (.refl _) ?_)
     refine es ?_
     refine At.cut (λ R' H' st' => DX = R' ∧ ∃ (wB : au), ue ye (wh dS.1 cT.2.2.2 ga (i64 ((dS.1 cT.2.2.2 ga) + 1))) wB ∧ H' = (r5, .cells #[iv cT.2.2.2, iv ga] 145) :: wB ++ ((kq, .cells #[iv dh.1.book.aE, iv dh.1.book.aa.an, iv dh.1.book.aa.ax, vB, vC, vD, ry, vE] 106) :: n6 ++ (H)) ∧ aK st' [(2, iv cT.1), (3, iv cT.2.1), (5, .pointer (some ⟨kq, 0, none⟩)), (6, ye), (7, iv cT.2.2.2), (8, iv dS.2.1), (11, .pointer (some ⟨r5, 0, none⟩)), (26, iv (x0.az.length : Int)), (27, iv cT.2.2.2), (31, ry), (32, iv (dh.1.dR.length : Int)), (33, iv dS.2.2)]) ?_ ?_
     ·rintro aHm aFy aPp ⟨rfl, wB, Ct, rfl, arw⟩
      refine At.sub arw ?_
      refine At.rg dy ?_
      refine vs 2 ?_
      refine lN [_, _] 0 2 OU z0 ?_
      refine At.s rfl rfl (Ox.TU (p := cT.2.2.2) (w := ga) rfl rfl rfl Hx Ct (λ _ h => (.tail _ (List.mem_append_left _ h))) rfl (.put rfl) ?_)
      refine At.s rfl rfl (Ox.max (a := dS.2.1) (l := [(wh dS.1 cT.2.2.2 ga (i64 ((dS.1 cT.2.2.2 ga) + 1))) cT.2.2.2 ga]) rfl rfl rfl (.put rfl) ?_)
      refine vs 1 ?_
      refine er ?_
      refine At.inBlock ?_
      refine At.rg aQ ?_
      refine vs 2 ?_
      refine er ?_
      exact At.drop (so sr) (Jp _ (af hM).symm _ _ _ ⟨rfl, wB, Ct, rfl, aA.sub ⟨rfl, rfl, rfl, rfl, rfl, rfl, rfl, rfl, rfl, rfl, rfl, trivial⟩⟩)
     intro ZQ
     refine At.draw (n := 7) (is := [0, 1, 2, 3, 4, 5, 6]) (many ((r5, .cells #[iv cT.2.2.2, iv ga] 145) :: (ug, .cells (List.toArray ([iv tE.fB] ++ (tE.weights.map (Value.int .i64) ++ []))) 125) :: fu ++ ((kq, .cells #[iv dh.1.book.aE, iv dh.1.book.aa.an, iv dh.1.book.aa.ax, vB, vC, vD, ry, vE] 106) :: n6 ++ (H))) [(2, (r5, .cells #[iv cT.2.2.2, iv ga] 145) :: (ug, .cells (List.toArray ([iv tE.fB] ++ (tE.weights.map (Value.int .i64) ++ []))) 125) :: (kq, .cells #[iv dh.1.book.aE, iv dh.1.book.aa.an, iv dh.1.book.aa.ax, vB, vC, vD, ry, vE] 106) :: n6 ++ (H)), (4, (r5, .cells #[iv cT.2.2.2, iv ga] 145) :: (ug, .cells (List.toArray ([iv tE.fB] ++ (tE.weights.map (Value.int .i64) ++ []))) 125) :: (kq, .cells #[iv dh.1.book.aE, iv dh.1.book.aa.an, iv dh.1.book.aa.ax, vB, vC, vD, ry, vE] 106) :: n6 ++ (H)), (6, (r5, .cells #[iv cT.2.2.2, iv ga] 145) :: (ug, .cells (List.toArray ([iv tE.fB] ++ (tE.weights.map (Value.int .i64) ++ []))) 125) :: (kq, .cells #[iv dh.1.book.aE, iv dh.1.book.aa.an, iv dh.1.book.aa.ax, vB, vC, vD, ry, vE] 106) :: n6 ++ (H))]) mixed rfl (by decide +kernel) rfl rfl ?_
     refine Any.vs 1 [0] rfl ?_
     refine ts 1 [2, 3, 4, 5, 6] rfl (cq rfl (cq rfl (cq rfl (dm (su (sk (so (aP (so (aP sr)))))))))) (su (sk (so (aP (so (aP sr)))))) (λ R' H' hR hS => Ox.bP (vs := [_, _]) rfl rfl OU rfl ((aT.box (hS _ z0)).part (j := 0) (n := 2) rfl) rfl (.one rfl) ⟨rfl, rfl, rfl⟩) ?_
     refine tw 2 4 ?_ ?_
     ·refine  (aR.to (Ox.TU (p := cT.2.2.2) (w := ga) rfl rfl rfl Hx KF (λ _ h => (.tail _ (.tail _ (List.mem_append_left _ h)))) rfl (.put rfl) ⟨rr, (bO rfl (su (sk (sk (aP sr))))), ?_⟩))
      refine Any.vs 1 [3] rfl ?_
      refine Any.on 4 rfl rfl (aR.to (Ox.mapEntry (p := cT.2.2.2) (w := ga) (λ X => (r5, _) :: (ug, _) :: X ++ ((kq, _) :: n6 ++ (H))) rfl rfl rfl Hx (.cons (.cons .id)) KF rfl λ akm agb Ka => ⟨_, (.put rfl), ⟨rr, (bO rfl (su (sk (sk (aP sr))))), ?_⟩⟩))
      refine Any.vs 1 [5] rfl ?_
      refine Any.on 6 rfl rfl (aR.to (Ox.entryStore (λ X => (r5, _) :: (ug, _) :: X ++ ((kq, _) :: n6 ++ (H))) rfl rfl rfl rfl (.cons (.cons .id)) Ka rfl (.refl _) λ wB Ct => ⟨rr, (bO rfl (su (sk (sk (aP sr))))), ?_⟩))
      exact Any.done (At.drop (sk (so sr)) (ZQ _ _ _ ⟨rfl, wB, Ct, rfl, aA.sub ⟨rfl, rfl, rfl, rfl, rfl, rfl, rfl, rfl, rfl, rfl, rfl, rfl, trivial⟩⟩))
     refine  (aR.to (Ox.mapEntry (p := cT.2.2.2) (w := ga) (λ X => (r5, _) :: (ug, _) :: X ++ ((kq, _) :: n6 ++ (H))) rfl rfl rfl Hx (.cons (.cons .id)) KF rfl λ akm agb Ka => ⟨_, (.put rfl), ⟨rr, (bO rfl (su (sk (sk (aP sr))))), ?_⟩⟩))
     refine Any.vs 1 [5] rfl ?_
     refine Any.on 2 rfl rfl (aR.to (Ox.TU (p := cT.2.2.2) (w := ga) rfl rfl rfl Hx Ka.own (λ _ h => (.tail _ (.tail _ (List.mem_append_left _ h)))) rfl (.put rfl) ⟨rr, (bO rfl (su (sk (sk (aP sr))))), ?_⟩))
     refine Any.vs 1 [3] rfl ?_
     refine Any.on 6 rfl rfl (aR.to (Ox.entryStore (λ X => (r5, _) :: (ug, _) :: X ++ ((kq, _) :: n6 ++ (H))) rfl rfl rfl rfl (.cons (.cons .id)) Ka rfl (.refl _) λ wB Ct => ⟨rr, (bO rfl (su (sk (sk (aP sr))))), ?_⟩))
     exact Any.done (At.drop (sk (so sr)) (ZQ _ _ _ ⟨rfl, wB, Ct, rfl, aA.sub ⟨rfl, rfl, rfl, rfl, rfl, rfl, rfl, rfl, rfl, rfl, rfl, rfl, trivial⟩⟩))
    exact At.exit rfl (PO _ (af hM).symm _ _ _ ⟨rfl, fu, KF, rfl, aA.sub ⟨rfl, rfl, rfl, rfl, rfl, rfl, rfl, rfl, trivial⟩⟩)
   rintro lB OD afU azG ⟨rfl, rV, aah, rfl, RJ⟩ hM
   refine At.sub RJ ?_
   refine sg aS ?_
   refine vs 3 ?_
   refine er ?_
   refine sc hM (λ Gg hM => ?_) (λ Gg hM => ?_)
   ·refine At.rg bn ?_
    refine vs 4 ?_
    refine er ?_
    refine At.inBlock ?_
    refine At.rg aQ ?_
    refine vs 2 ?_
    refine er ?_
    exact XA _ (af hM).symm _ _ _ ⟨rfl, rV, aah, rfl, aA.sub ⟨rfl, rfl, rfl, rfl, rfl, rfl, trivial⟩⟩
   refine sp ?_
   refine At.inBlock ?_
   refine At.rg aQ ?_
   refine vs 2 ?_
   refine er ?_
   exact XA _ (af hM).symm _ _ _ ⟨rfl, rV, aah, rfl, aA.sub ⟨rfl, rfl, rfl, rfl, rfl, rfl, trivial⟩⟩
  exact At.exit rfl (At.drop (aP (so (aP sr))) (aje _ (af hM).symm _ _ _ ⟨rfl, rfl, aA.sub ⟨rfl, rfl, trivial⟩⟩))
 rintro C8 aGc aEg aNJ ⟨rfl, rfl, apN⟩ hM
 refine At.sub apN ?_
 refine sg bT ?_
 refine vs 5 ?_
 refine er ?_
 obtain rfl := af hM
 exact rt Tryz.func33 (.tmp rfl (.tmp rfl (.tmp rfl .nil))) sr (hk _ _ _ ⟨Ej, rfl, rfl⟩)
theorem T8 (x0 : (List bW)) {v0 : Value} (h0 : bC bh 2 R H v0 x0) {r : List bW} (hM : yq x0 = some r) : aJ ag 117 #[v0] R H (λ v R' H' => aN R R' ∧ ∃ w Hs, aZ bh 2 47 R' w r Hs ∧ H' = Hs ++ H ∧ v = w) := by
 rcases h0.Ur with ⟨E3, rfl, rfl⟩ | ⟨a0, n0, E3, rfl⟩
 ·have hM : some ([] : List bW) = some r := by simpa [yq, cy] using hM
  refine aJ.aX Tryz.func117 rfl (n := 8) rfl rfl λ fr cs hk => ?_
  refine sg aL ?_
  refine vs 1 ?_
  refine es ?_
  refine sg aQ ?_
  refine vs 1 ?_
  refine At.s rfl rfl (Ox.B9 rfl rfl rfl Tryz.underlying26 rfl rfl (.put rfl) ?_)
  refine er ?_
  refine At.cond_true rfl ?_
  refine sg aL ?_
  refine vs 1 ?_
  refine er ?_
  obtain rfl := af hM
  exact rt Tryz.func117 (.tmp rfl .nil) sr (hk _ _ _ ⟨(rr), .slice none 0 0, [], aZ.nil, rfl, rfl⟩)
 ·unfold yq at hM
  refine aJ.aX Tryz.func117 rfl (n := 8) rfl rfl λ fr cs hk => ?_
  refine sg aL ?_
  refine vs 1 ?_
  refine es ?_
  refine sg aQ ?_
  refine vs 1 ?_
  refine At.s rfl rfl (Ox.B9 rfl rfl rfl Tryz.underlying26 rfl rfl (.put rfl) ?_)
  refine er ?_
  refine At.cond_false rfl ?_
  refine sp ?_
  refine sg bn ?_
  refine At.s rfl rfl (Ox.buildSlice (cells := #[]) rfl o9 rfl (by decide) O1 aY rfl λ cn _ _ => ⟨_, (.put rfl), ?_⟩)
  refine vs 1 ?_
  obtain ⟨cA, ff, hM⟩ := ao hM
  refine At.s rfl rfl (Ox.append (K := bh) (λ X => X ++ (H)) rfl rfl rfl n8 Tryz.underlying26 (by simp) .id (aZ.lit (aG.le aG.nil rfl) rfl) (h0.sub (su (so sr))).arg ff rfl λ Ie EH FU => ⟨_, (.put rfl), ?_⟩)
  refine vs 1 ?_
  refine er ?_
  obtain rfl := af hM
  exact rt Tryz.func117 (.tmp rfl .nil) sr (hk _ _ _ ⟨(rr), Ie, EH, FU, rfl, rfl⟩)
theorem abw (x0 : (List cG)) {v0 : Value} (h0 : bC bm 5 R H v0 x0) {r : List cG} (hM : yu x0 = some r) : aJ ag 122 #[v0] R H (λ v R' H' => aN R R' ∧ ∃ w Hs, aZ bm 5 58 R' w r Hs ∧ H' = Hs ++ H ∧ v = w) := by
 rcases h0.Ur with ⟨E3, rfl, rfl⟩ | ⟨a0, n0, E3, rfl⟩
 ·have hM : some ([] : List cG) = some r := by simpa [yu, cy] using hM
  refine aJ.aX Tryz.func122 rfl (n := 8) rfl rfl λ fr cs hk => ?_
  refine sg aL ?_
  refine vs 1 ?_
  refine es ?_
  refine sg aQ ?_
  refine vs 1 ?_
  refine At.s rfl rfl (Ox.B9 rfl rfl rfl Tryz.underlying24 rfl rfl (.put rfl) ?_)
  refine er ?_
  refine At.cond_true rfl ?_
  refine sg aL ?_
  refine vs 1 ?_
  refine er ?_
  obtain rfl := af hM
  exact rt Tryz.func122 (.tmp rfl .nil) sr (hk _ _ _ ⟨(rr), .slice none 0 0, [], aZ.nil, rfl, rfl⟩)
 ·unfold yu at hM
  refine aJ.aX Tryz.func122 rfl (n := 8) rfl rfl λ fr cs hk => ?_
  refine sg aL ?_
  refine vs 1 ?_
  refine es ?_
  refine sg aQ ?_
  refine vs 1 ?_
  refine At.s rfl rfl (Ox.B9 rfl rfl rfl Tryz.underlying24 rfl rfl (.put rfl) ?_)
  refine er ?_
  refine At.cond_false rfl ?_
  refine sp ?_
  refine sg bn ?_
  refine At.s rfl rfl (Ox.buildSlice (cells := #[]) rfl Po rfl (by decide) X0 aY rfl λ cn _ _ => ⟨_, (.put rfl), ?_⟩)
  refine vs 1 ?_
  obtain ⟨cA, ff, hM⟩ := ao hM
  refine At.s rfl rfl (Ox.append (K := bm) (λ X => X ++ (H)) rfl rfl rfl XR Tryz.underlying24 (by simp) .id (aZ.lit (aG.le aG.nil rfl) rfl) (h0.sub (su (so sr))).arg ff rfl λ Ie EH FU => ⟨_, (.put rfl), ?_⟩)
  refine vs 1 ?_
  refine er ?_
  obtain rfl := af hM
  exact rt Tryz.func122 (.tmp rfl .nil) sr (hk _ _ _ ⟨(rr), Ie, EH, FU, rfl, rfl⟩)
end
end Go.Proofs.YtabamagholjdcaaGreatDoor
