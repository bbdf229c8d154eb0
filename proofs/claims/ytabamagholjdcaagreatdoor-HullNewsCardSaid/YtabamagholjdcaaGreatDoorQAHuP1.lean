/- Walks, part 1: each function computes its model. -/
import Derived.Test.YtabamagholjdcaaGreatDoorQAHuM
namespace Go.Proofs.YtabamagholjdcaaGreatDoor
open Go.Lg Go.Proofs
set_option maxRecDepth 100000
set_option maxHeartbeats 4000000
section
variable {B : Base} {main : Bool} {ag : Jd Tryz.prog B main} {R : aI} {H : au}
theorem xG (x0 : aq) (x1 : bu) (x2 : (List Bool)) {aC aD aH : Value} (ay : aj bm 5 R aC x0.az) (_ : aj CZ 1 R aD x0.Out) (_ : aj bh 2 R aH x0.aO) (Ax : x1.weights.length = 5) (l2 : x2.length = 5) {r : Int} (hM : oU x0 x1 x2 = some r) : aJ ag 104 #[.agg #[iv x0.aE, iv x0.aa.an, iv x0.aa.ax, aC, aD, aH], .agg (List.toArray ([iv x1.fB] ++ (x1.weights.map (Value.int .i64) ++ []))), .agg (List.toArray ([] ++ (x2.map Value.bool ++ [])))] R H (λ v R' H' => R = R' ∧ H = H' ∧ v = iv r) := by
 unfold oU at hM
 refine aJ.aX Tryz.func104 rfl (n := 36) rfl rfl λ fr cs hk => ?_
 refine sg bn ?_
 refine bx λ gp => ?_
 refine bx λ lX => ?_
 refine bx λ r7 => ?_
 refine vs 1 ?_
 refine nx aS ?_
 refine vs 1 ?_
 refine ld 0 bg z1 ?_
 refine vs 1 ?_
 refine es ?_
 refine sg bT ?_
 refine vs 2 ?_
 refine ld 3 cK z2 ?_
 refine ls ay Tryz.underlying24 ?_
 refine vs 1 ?_
 refine er ?_
 refine At.block ?_
 refine At.drop (H' := (r7, .cells (List.toArray ([] ++ (x2.map Value.bool ++ []))) 112) :: (lX, .cells (List.toArray ([iv x1.fB] ++ (x1.weights.map (Value.int .i64) ++ []))) 125) :: H) (sk (sk (so sr))) ?_
 refine At.c8 hM (λ (ey : (Int × Int)) R' H' st' => R = R' ∧ H' = (r7, .cells (List.toArray ([] ++ (x2.map Value.bool ++ []))) 112) :: (lX, .cells (List.toArray ([iv x1.fB] ++ (x1.weights.map (Value.int .i64) ++ []))) 125) :: H ∧ aK st' [(4, .pointer (some ⟨lX, 0, none⟩)), (5, .pointer (some ⟨r7, 0, none⟩)), (7, iv ey.1), (14, aC), (15, iv (x0.az.length : Int)), (16, iv ey.2)]) (λ (qV : Int) R' H' st' => R = R' ∧ H = H' ∧ aK st' [(7, iv qV)]) 0 rfl ⟨rfl, rfl, aA.sub ⟨rfl, rfl, rfl, rfl, rfl, rfl, trivial⟩⟩ ?_ ?_
 rotate_right
 ·rintro ey W6 WG acA ⟨rfl, rfl, F3⟩ mS hM wG Fb
  refine At.sub F3 ?_
  refine sg aL ?_
  refine vs 1 ?_
  refine es ?_
  refine sc hM (λ Gt hM => ?_) (λ Gt hM => ?_)
  ·refine sp ?_
   refine sq ?_
   refine At.block ?_
   refine sg dy ?_
   refine vs 1 ?_
   obtain ⟨nQ, As, hM⟩ := ao hM
   obtain ⟨aKe, aNb, _, ⟨aQN, avf, rfl⟩, al7, anY⟩ := ay.elem gN As
   refine At.s rfl rfl (Ox.bq rfl rfl rfl anY rfl (.put rfl) ?_)
   refine At.s rfl rfl (Ox.bP (vs := [_, _, _, _, _]) rfl rfl ko rfl (al7.any.part (j := 0) (n := 5) rfl) rfl (.put rfl) ?_)
   refine At.s rfl rfl (Ox.alloc (cs := #[.string (⟨#[]⟩), iv 0, iv 0, iv 0, .slice none 0 0]) rfl vO rfl λ wJ _ _ => ⟨_, (.put rfl), ?_⟩)
   refine vs 1 ?_
   refine At.s rfl rfl (Ox.bp (cs' := #[_, _, _, _, _]) rfl rfl rfl ko rfl (ak rfl (ak rfl (ak rfl (ak rfl (ak avf.one aW))))) .here rfl rfl rfl (.refl _) ?_)
   refine nx bn ?_
   refine vs 1 ?_
   obtain ⟨j6, xA, hM⟩ := ao hM
   refine At.s rfl rfl (Ox.bq rfl rfl rfl (sW BW l2 xA) rfl (.put rfl) ?_)
   refine At.ld iS ((aT.box z1).arr xA rfl) ?_
   refine vs 1 ?_
   refine er ?_
   refine sc hM (λ Gv hM => ?_) (λ Gv hM => ?_)
   ·refine At.dw mM mixed ?_
    refine Any.vs 2 [0, 1] rfl ?_
    refine tl 2 1 bg z0 ?_
    refine Any.vs 2 [3, 4] rfl ?_
    obtain ⟨iY, pG, hM⟩ := ao hM
    refine Any.tk 5 rfl pp (λ R' H' hR hS => Ox.bq rfl rfl rfl (sW EX Ax pG) rfl (.one rfl) ⟨rfl, rfl, rfl⟩) ?_
    refine Any.tk 6 rfl pp (λ R' H' hR hS => Ox.bV rfl rfl bg ((aT.box (hS _ z2)).arr pG rfl) rfl (.one rfl) ⟨rfl, rfl, rfl⟩) ?_
    refine Any.vs 3 [7, 8, 9] rfl ?_
    refine Any.done ?_
    refine At.inBlock ?_
    refine At.rg aQ ?_
    refine vs 2 ?_
    refine er ?_
    exact At.drop (so sr) (wG _ (af hM).symm _ _ _ ⟨rfl, rfl, aA.sub ⟨rfl, rfl, rfl, rfl, rfl, rfl, trivial⟩⟩)
   refine sp ?_
   refine At.inBlock ?_
   refine At.rg aQ ?_
   refine vs 2 ?_
   refine er ?_
   exact At.drop (so sr) (wG _ (af hM).symm _ _ _ ⟨rfl, rfl, aA.sub ⟨rfl, rfl, rfl, rfl, rfl, rfl, trivial⟩⟩)
  exact At.exit rfl (At.drop (so (so sr)) (Fb _ (af hM).symm _ _ _ ⟨rfl, rfl, aA.sub ⟨rfl, trivial⟩⟩))
 rintro qV W7 WH acB ⟨rfl, rfl, F4⟩ hM
 refine At.sub F4 ?_
 refine sg aQ ?_
 refine vs 2 ?_
 refine er ?_
 obtain rfl := af hM
 exact rt Tryz.func104 (.tmp rfl .nil) sr (hk _ _ _ ⟨rfl, rfl, rfl⟩)
theorem aeT (x0 : aq) {aC aD aH : Value} (ay : aj bm 5 R aC x0.az) (aB : aj CZ 1 R aD x0.Out) (aF : aj bh 2 R aH x0.aO) {r : Bool} (hM : AO x0 = some r) : aJ ag 18 #[.agg #[iv x0.aE, iv x0.aa.an, iv x0.aa.ax, aC, aD, aH]] R H (λ v R' H' => R = R' ∧ H = H' ∧ v = .bool r) := by
 unfold AO at hM
 refine aJ.aX Tryz.func18 rfl (n := 45) rfl rfl λ fr cs hk => ?_
 refine sg aQ ?_
 refine bx λ jY => ?_
 refine vs 1 ?_
 refine es ?_
 refine sq ?_
 refine At.gR hM (λ (Df : Bool) R' H' st' => R = R' ∧ H' = (jY, .cells #[iv x0.aE, iv x0.aa.an, iv x0.aa.ax, aC, aD, aH] 28) :: H ∧ aK st' [(1, .pointer (some ⟨jY, 0, none⟩)), (19, .bool Df)])  ?_ ?_
 rotate_right
 ·intro gb hM Fc
  refine At.rg aci ?_
  refine vs 1 ?_
  refine ld 3 cK z0 ?_
  refine ls ay Tryz.underlying24 ?_
  refine vs 2 ?_
  refine bA hM (λ qC hM => ?_) (λ qC hM => ?_)
  ·refine At.kn 8 qC ?_
   refine vs 11 ?_
   refine er ?_
   exact Fc _ (af hM).symm _ _ _ ⟨rfl, rfl, aA.sub ⟨rfl, rfl, trivial⟩⟩
  refine At.kn 8 qC ?_
  refine vs 1 ?_
  refine ld 4 bL z0 ?_
  refine ls aB Tryz.underlying25 ?_
  refine vs 3 ?_
  refine bA hM (λ Af hM => ?_) (λ Af hM => ?_)
  ·refine At.kn 14 Af ?_
   refine vs 5 ?_
   refine er ?_
   exact Fc _ (af hM).symm _ _ _ ⟨rfl, rfl, aA.sub ⟨rfl, rfl, trivial⟩⟩
  refine At.kn 14 Af ?_
  refine vs 1 ?_
  refine ld 5 eu z0 ?_
  refine ls aF Tryz.underlying26 ?_
  refine vs 2 ?_
  refine er ?_
  exact Fc _ (af hM).symm _ _ _ ⟨rfl, rfl, aA.sub ⟨rfl, rfl, trivial⟩⟩
 rintro Df agC af3 azO ⟨rfl, rfl, RR⟩ hM
 refine At.sub RR ?_
 refine sc hM (λ Ag hM => ?_) (λ Ag hM => ?_)
 ·refine sg aL ?_
  refine vs 1 ?_
  refine er ?_
  obtain rfl := af hM
  exact rt Tryz.func18 (.tmp rfl .nil) (so sr) (hk _ _ _ ⟨rfl, rfl, rfl⟩)
 refine sp ?_
 refine sq ?_
 refine sg aL ?_
 refine vs 1 ?_
 refine er ?_
 refine At.block ?_
 refine At.fh hM (λ (ia : Int) R' H' st' => R = R' ∧ H' = (jY, .cells #[iv x0.aE, iv x0.aa.an, iv x0.aa.ax, aC, aD, aH] 28) :: H ∧ aK st' [(1, .pointer (some ⟨jY, 0, none⟩)), (3, iv ia)]) (λ (oJ : Unit) R' H' st' => R = R' ∧ H = H' ∧ aK st' []) 0 rfl ⟨rfl, rfl, aA.sub ⟨rfl, rfl, trivial⟩⟩ ?_ ?_
 rotate_right
 ·rintro ia R60 H60 azQ ⟨rfl, rfl, RU⟩ eY hM Jr Ca abU
  refine At.sub RU ?_
  refine sq ?_
  refine sg bT ?_
  refine vs 2 ?_
  refine ld 3 cK z0 ?_
  refine ls ay Tryz.underlying24 ?_
  refine vs 1 ?_
  refine er ?_
  refine sc hM (λ Ak hM => ?_) (λ Ak hM => ?_)
  ·refine sp ?_
   refine sq ?_
   refine At.block ?_
   refine sg UK ?_
   refine vs 1 ?_
   refine ld 3 cK z0 ?_
   refine vs 1 ?_
   obtain ⟨jx, pH, hM⟩ := ao hM
   refine bA hM (λ Al hM => ?_) (λ Al hM => ?_)
   ·obtain ⟨JF, LA, _, ⟨aBo, avm, rfl⟩, uD, uE⟩ := ay.elem gN pH
    refine At.s rfl rfl (Ox.bq rfl rfl rfl uE rfl (.put rfl) ?_)
    refine vs 1 ?_
    refine At.ld s6 (uD.any.one (j := 0) rfl) ?_
    refine At.s rfl rfl (Ox.G2 rfl rfl Tryz.underlying9 rfl (.put rfl) ?_)
    refine vs 2 ?_
    refine At.kn 35 Al ?_
    refine vs 9 ?_
    refine er ?_
    refine At.cond_true rfl ?_
    refine sg aL ?_
    refine vs 1 ?_
    refine er ?_
    replace hM := abU _ (af hM).symm
    obtain rfl := af hM
    exact rt Tryz.func18 (.tmp rfl .nil) (so sr) (hk _ _ _ ⟨rfl, rfl, rfl⟩)
   obtain ⟨nY, Cz, hM⟩ := ao hM
   obtain ⟨JF, LA, _, ⟨aBo, avm, rfl⟩, uD, uE⟩ := ay.elem gN pH
   refine At.s rfl rfl (Ox.bq rfl rfl rfl uE rfl (.put rfl) ?_)
   refine vs 1 ?_
   refine At.ld s6 (uD.any.one (j := 0) rfl) ?_
   refine At.s rfl rfl (Ox.G2 rfl rfl Tryz.underlying9 rfl (.put rfl) ?_)
   refine vs 2 ?_
   refine At.kn 35 Al ?_
   refine vs 1 ?_
   refine ld 3 cK z0 ?_
   refine vs 1 ?_
   obtain ⟨ahZ, ayD, _, ⟨aQS, avn, rfl⟩, QN, Q9⟩ := ay.elem gN Cz
   refine At.s rfl rfl (Ox.bq rfl rfl rfl Q9 rfl (.put rfl) ?_)
   refine vs 1 ?_
   refine At.ld bL (QN.any.one (j := 4) rfl) ?_
   refine ls avn Tryz.underlying25 ?_
   refine vs 2 ?_
   refine er ?_
   refine sc hM (λ aaq hM => ?_) (λ aaq hM => ?_)
   ·refine sg aL ?_
    refine vs 1 ?_
    refine er ?_
    replace hM := abU _ (af hM).symm
    obtain rfl := af hM
    exact rt Tryz.func18 (.tmp rfl .nil) (so sr) (hk _ _ _ ⟨rfl, rfl, rfl⟩)
   refine sp ?_
   refine At.inBlock ?_
   refine At.rg aS ?_
   refine vs 3 ?_
   refine er ?_
   exact Jr _ (af hM).symm _ _ _ ⟨rfl, rfl, aA.sub ⟨rfl, rfl, trivial⟩⟩
  exact At.exit rfl (At.drop (so sr) (Ca _ (af hM).symm _ _ _ ⟨rfl, rfl, aA.sub trivial⟩))
 rintro oJ W9 WI acC ⟨rfl, rfl, F5⟩ hM
 refine At.sub F5 ?_
 refine sg aL ?_
 refine vs 1 ?_
 refine er ?_
 obtain rfl := af hM
 exact rt Tryz.func18 (.tmp rfl .nil) sr (hk _ _ _ ⟨rfl, rfl, rfl⟩)
theorem Uc (x0 : Reach) (x1 : Int) (x2 : Int) (x3 : Int)  {r : Bool} (hM : u6 x0 x1 x2 x3 = some r) : aJ ag 121 #[.agg #[iv x0.an, iv x0.ax], iv x1, iv x2, iv x3] R H (λ v R' H' => R = R' ∧ H = H' ∧ v = .bool r) := by
 unfold u6 at hM
 refine aJ.aX Tryz.func121 rfl (n := 35) rfl rfl λ fr cs hk => ?_
 refine sg aQ ?_
 refine bx λ n9 => ?_
 refine vs 1 ?_
 refine nx ack ?_
 refine vs 2 ?_
 refine ld 0 bg z0 ?_
 refine vs 2 ?_
 refine bA hM (λ mC hM => ?_) (λ mC hM => ?_)
 ·refine At.kn 13 mC ?_
  refine vs 1 ?_
  refine ld 0 bg z0 ?_
  refine vs 1 ?_
  refine ld 1 bg z0 ?_
  refine vs 3 ?_
  refine bA hM (λ kE hM => ?_) (λ kE hM => ?_)
  ·refine At.kn 20 kE ?_
   refine vs 1 ?_
   refine ld 1 bg z0 ?_
   refine vs 4 ?_
   refine bA hM (λ kF hM => ?_) (λ kF hM => ?_)
   ·refine At.kn 26 kF ?_
    refine vs 1 ?_
    refine ld 1 bg z0 ?_
    refine vs 1 ?_
    refine ld 0 bg z0 ?_
    refine vs 5 ?_
    refine er ?_
    obtain rfl := af hM
    exact rt Tryz.func121 (.tmp rfl .nil) (so sr) (hk _ _ _ ⟨rfl, rfl, rfl⟩)
   refine At.kn 26 kF ?_
   refine vs 9 ?_
   refine er ?_
   obtain rfl := af hM
   exact rt Tryz.func121 (.tmp rfl .nil) (so sr) (hk _ _ _ ⟨rfl, rfl, rfl⟩)
  refine At.kn 20 kE ?_
  refine vs 15 ?_
  refine er ?_
  obtain rfl := af hM
  exact rt Tryz.func121 (.tmp rfl .nil) (so sr) (hk _ _ _ ⟨rfl, rfl, rfl⟩)
 refine At.kn 13 mC ?_
 refine vs 22 ?_
 refine er ?_
 obtain rfl := af hM
 exact rt Tryz.func121 (.tmp rfl .nil) (so sr) (hk _ _ _ ⟨rfl, rfl, rfl⟩)
theorem qP (x0 : Int) (x1 : Int) (x2 : Int)  {r : Bool} (hM : kH x0 x1 x2 = some r) : aJ ag 154 #[iv x0, iv x1, iv x2] R H (λ v R' H' => R = R' ∧ H = H' ∧ v = .bool r) := by
 unfold kH at hM
 refine aJ.aX Tryz.func154 rfl (n := 15) rfl rfl λ fr cs hk => ?_
 refine sg aL ?_
 refine vs 1 ?_
 refine nx gd ?_
 refine vs 4 ?_
 refine bA hM (λ Aa hM => ?_) (λ Aa hM => ?_)
 ·refine At.kn 10 Aa ?_
  refine vs 5 ?_
  refine er ?_
  obtain rfl := af hM
  exact rt Tryz.func154 (.tmp rfl .nil) sr (hk _ _ _ ⟨rfl, rfl, rfl⟩)
 refine At.kn 10 Aa ?_
 refine vs 5 ?_
 refine er ?_
 obtain rfl := af hM
 exact rt Tryz.func154 (.tmp rfl .nil) sr (hk _ _ _ ⟨rfl, rfl, rfl⟩)
theorem axw (x0 : aq) {aC aD aH : Value} (_ : aj bm 5 R aC x0.az) (_ : aj CZ 1 R aD x0.Out) (_ : aj bh 2 R aH x0.aO) {r : Int} (hM : AP x0 = some r) : aJ ag 211 #[.agg #[iv x0.aE, iv x0.aa.an, iv x0.aa.ax, aC, aD, aH]] R H (λ v R' H' => R = R' ∧ H = H' ∧ v = iv r) := by
 unfold AP at hM
 refine aJ.aX Tryz.func211 rfl (n := 15) rfl rfl λ fr cs hk => ?_
 refine sg aQ ?_
 refine bx λ zf => ?_
 refine vs 1 ?_
 refine es ?_
 refine sg oV ?_
 refine vs 2 ?_
 refine ld 0 bg z0 ?_
 obtain ⟨fR, qE, hM⟩ := ao hM
 refine At.cv qk (qP x0.aE 0 9999  qE) ?_
 rintro _ _ _ ⟨rfl, rfl, rfl⟩
 refine vs 2 ?_
 refine bA hM (λ kF hM => ?_) (λ kF hM => ?_)
 ·refine At.kn 8 kF ?_
  refine vs 6 ?_
  refine er ?_
  refine At.cond_true rfl ?_
  refine sg aL ?_
  refine vs 1 ?_
  refine er ?_
  obtain rfl := af hM
  exact rt Tryz.func211 (.tmp rfl .nil) (so sr) (hk _ _ _ ⟨rfl, rfl, rfl⟩)
 refine At.kn 8 kF ?_
 refine vs 2 ?_
 refine lN [_, _] 1 2 eJ z0 ?_
 obtain ⟨oP, xl, hM⟩ := ao hM
 refine At.cv Py (Uc x0.aa (-999) 999 3  xl) ?_
 rintro _ _ _ ⟨rfl, rfl, rfl⟩
 refine vs 2 ?_
 refine er ?_
 refine sc hM (λ Gh hM => ?_) (λ Gh hM => ?_)
 ·refine sg aL ?_
  refine vs 1 ?_
  refine er ?_
  obtain rfl := af hM
  exact rt Tryz.func211 (.tmp rfl .nil) (so sr) (hk _ _ _ ⟨rfl, rfl, rfl⟩)
 refine sp ?_
 refine sg aL ?_
 refine vs 1 ?_
 refine er ?_
 obtain rfl := af hM
 exact rt Tryz.func211 (.tmp rfl .nil) (so sr) (hk _ _ _ ⟨rfl, rfl, rfl⟩)
theorem Ug (x0 : (List Int)) (x1 : Int) {v0 : Value} (h0 : bC CZ 1 R H v0 x0) {r : Int} (hM : u7 x0 x1 = some r) : aJ ag 132 #[v0, iv x1] R H (λ v R' H' => R = R' ∧ H = H' ∧ v = iv r) := by
 unfold u7 at hM
 refine aJ.aX Tryz.func132 rfl (n := 33) rfl rfl λ fr cs hk => ?_
 refine sg aL ?_
 refine vs 1 ?_
 refine es ?_
 refine sg aS ?_
 refine vs 1 ?_
 refine lr h0 Tryz.underlying25 ?_
 refine vs 1 ?_
 refine er ?_
 refine At.block ?_
 refine At.fh hM (λ (vq : Int) R' H' st' => R = R' ∧ H = H' ∧ aK st' [(0, v0), (1, iv x1), (7, v0), (8, iv (x0.length : Int)), (9, iv vq)]) (λ (ayI : Unit) R' H' st' => R = R' ∧ H = H' ∧ aK st' []) 0 rfl ⟨rfl, rfl, aA.sub ⟨rfl, rfl, rfl, rfl, rfl, trivial⟩⟩ ?_ ?_
 rotate_right
 ·rintro vq R48 H48 aOB ⟨rfl, rfl, aqF⟩ ek hM XG ajA abQ
  refine At.sub aqF ?_
  refine sg aL ?_
  refine vs 1 ?_
  refine es ?_
  refine sc hM (λ Ah hM => ?_) (λ Ah hM => ?_)
  ·refine sp ?_
   refine sq ?_
   refine At.block ?_
   refine sg bT ?_
   refine vs 1 ?_
   obtain ⟨iJ, qL, hM⟩ := ao hM
   obtain ⟨ahX, ayB, _, rfl, QL, Q7⟩ := h0.elem cL qL
   refine At.s rfl rfl (Ox.bq rfl rfl rfl Q7 rfl (.put rfl) ?_)
   refine At.ld bg ((QL.sub pp).one (j := 0) rfl) ?_
   refine vs 2 ?_
   refine er ?_
   refine At.block ?_
   refine sg dy ?_
   refine vs 3 ?_
   obtain ⟨nQ, As, hM⟩ := ao hM
   refine At.cv qk (qP iJ 0 (i64 (x1 - 1))  As) ?_
   rintro _ _ _ ⟨rfl, rfl, rfl⟩
   refine vs 2 ?_
   refine er ?_
   refine sc hM (λ Gu hM => ?_) (λ Gu hM => ?_)
   ·refine sg aL ?_
    refine vs 1 ?_
    refine er ?_
    replace hM := abQ _ (af hM).symm
    obtain rfl := af hM
    exact rt Tryz.func132 (.tmp rfl .nil) sr (hk _ _ _ ⟨rfl, rfl, rfl⟩)
   refine sg oV ?_
   refine vs 3 ?_
   refine bA hM (λ Ai hM => ?_) (λ Ai hM => ?_)
   ·refine At.kn 23 Ai ?_
    refine vs 4 ?_
    obtain ⟨jw, uY, hM⟩ := ao hM
    obtain ⟨aKg, aNc, _, rfl, al8, an0⟩ := h0.elem cL uY
    refine At.s rfl rfl (Ox.bq rfl rfl rfl an0 rfl (.put rfl) ?_)
    refine At.ld bg ((al8.sub pp).one (j := 0) rfl) ?_
    refine vs 3 ?_
    refine er ?_
    refine sc hM (λ Aj hM => ?_) (λ Aj hM => ?_)
    ·refine sg aL ?_
     refine vs 1 ?_
     refine er ?_
     replace hM := abQ _ (af hM).symm
     obtain rfl := af hM
     exact rt Tryz.func132 (.tmp rfl .nil) sr (hk _ _ _ ⟨rfl, rfl, rfl⟩)
    refine sp ?_
    refine At.inBlock ?_
    refine At.inBlock ?_
    refine At.rg aQ ?_
    refine vs 2 ?_
    refine er ?_
    exact XG _ (af hM).symm _ _ _ ⟨rfl, rfl, aA.sub ⟨rfl, rfl, rfl, rfl, rfl, trivial⟩⟩
   refine At.kn 23 Ai ?_
   refine vs 9 ?_
   refine er ?_
   refine At.cond_false rfl ?_
   refine sp ?_
   refine At.inBlock ?_
   refine At.inBlock ?_
   refine At.rg aQ ?_
   refine vs 2 ?_
   refine er ?_
   exact XG _ (af hM).symm _ _ _ ⟨rfl, rfl, aA.sub ⟨rfl, rfl, rfl, rfl, rfl, trivial⟩⟩
  exact At.exit rfl (ajA _ (af hM).symm _ _ _ ⟨rfl, rfl, aA.sub trivial⟩)
 rintro ayI aGV aE1 aOC ⟨rfl, rfl, aqG⟩ hM
 refine At.sub aqG ?_
 refine sg aL ?_
 refine vs 1 ?_
 refine er ?_
 obtain rfl := af hM
 exact rt Tryz.func132 (.tmp rfl .nil) sr (hk _ _ _ ⟨rfl, rfl, rfl⟩)
theorem axE (x0 : ByteArray)  {r : Bool} (hM : AT x0 = some r) : aJ ag 215 #[.string x0] R H (λ v R' H' => R = R' ∧ H = H' ∧ v = .bool r) := by
 unfold AT at hM
 refine aJ.aX Tryz.func215 rfl (n := 31) rfl rfl λ fr cs hk => ?_
 refine sg aL ?_
 refine vs 1 ?_
 refine es ?_
 refine sg bn ?_
 refine vs 1 ?_
 refine At.s rfl rfl (Ox.azY rfl rfl Tryz.underlying9 Tryz.underlying234 Tryz.underlying5 rfl λ aAZ agi aaU => ⟨_, (.put rfl), ?_⟩)
 refine lr aaU Tryz.underlying234 ?_
 refine vs 1 ?_
 refine er ?_
 refine At.block ?_
 refine At.fh hM (λ (ey : Int) R' H' st' => R = R' ∧ H' = agi ++ (H) ∧ aK st' [(0, .string x0), (6, aAZ), (7, iv ((eX x0).length : Int)), (8, iv ey)]) (λ (qV : Unit) R' H' st' => R = R' ∧ H = H' ∧ aK st' [(0, .string x0)]) 0 rfl ⟨rfl, rfl, aA.sub ⟨rfl, rfl, rfl, rfl, trivial⟩⟩ ?_ ?_
 rotate_right
 ·rintro ey W6 WG acA ⟨rfl, rfl, F3⟩ mS hM wG Fb abR
  refine At.sub F3 ?_
  refine sg aL ?_
  refine vs 1 ?_
  refine es ?_
  refine sc hM (λ Gu hM => ?_) (λ Gu hM => ?_)
  ·refine sp ?_
   refine sq ?_
   refine At.block ?_
   refine sg bT ?_
   refine vs 1 ?_
   obtain ⟨j6, xA, hM⟩ := ao hM
   obtain ⟨ahY, ayC, _, rfl, QM, Q8⟩ := aaU.elem azx xA
   refine At.s rfl rfl (Ox.bq rfl rfl rfl Q8 rfl (.put rfl) ?_)
   refine At.ld ayh ((QM.sub pp).one (j := 0) rfl) ?_
   refine vs 2 ?_
   refine nx El ?_
   refine vs 1 ?_
   refine At.s rfl rfl (Ox.wm rfl rfl Tryz.underlying5 Tryz.underlying3 rfl (.put rfl) ?_)
   obtain ⟨jw, uY, hM⟩ := ao hM
   refine At.cv qk (qP (i64 j6) 97 122  uY) ?_
   rintro _ _ _ ⟨rfl, rfl, rfl⟩
   refine vs 2 ?_
   refine bA hM (λ Aj hM => ?_) (λ Aj hM => ?_)
   ·refine At.kn 17 Aj ?_
    refine vs 3 ?_
    refine bA hM (λ uO hM => ?_) (λ uO hM => ?_)
    ·refine At.kn 20 uO ?_
     refine vs 6 ?_
     refine er ?_
     refine At.cond_true rfl ?_
     refine sg aL ?_
     refine vs 1 ?_
     refine er ?_
     replace hM := abR _ (af hM).symm
     obtain rfl := af hM
     exact rt Tryz.func215 (.tmp rfl .nil) (aP sr) (hk _ _ _ ⟨rfl, rfl, rfl⟩)
    refine At.kn 20 uO ?_
    refine vs 1 ?_
    refine At.s rfl rfl (Ox.wm rfl rfl Tryz.underlying5 Tryz.underlying3 rfl (.put rfl) ?_)
    obtain ⟨yT, TB, hM⟩ := ao hM
    refine At.cv qk (qP (i64 j6) 48 57  TB) ?_
    rintro _ _ _ ⟨rfl, rfl, rfl⟩
    refine vs 3 ?_
    refine er ?_
    refine sc hM (λ asA hM => ?_) (λ asA hM => ?_)
    ·refine sg aL ?_
     refine vs 1 ?_
     refine er ?_
     replace hM := abR _ (af hM).symm
     obtain rfl := af hM
     exact rt Tryz.func215 (.tmp rfl .nil) (aP sr) (hk _ _ _ ⟨rfl, rfl, rfl⟩)
    refine sp ?_
    refine At.inBlock ?_
    refine At.rg aQ ?_
    refine vs 2 ?_
    refine er ?_
    exact wG _ (af hM).symm _ _ _ ⟨rfl, rfl, aA.sub ⟨rfl, rfl, rfl, rfl, trivial⟩⟩
   refine At.kn 17 Aj ?_
   refine vs 9 ?_
   refine er ?_
   refine At.cond_false rfl ?_
   refine sp ?_
   refine At.inBlock ?_
   refine At.rg aQ ?_
   refine vs 2 ?_
   refine er ?_
   exact wG _ (af hM).symm _ _ _ ⟨rfl, rfl, aA.sub ⟨rfl, rfl, rfl, rfl, trivial⟩⟩
  exact At.exit rfl (At.drop (aP sr) (Fb _ (af hM).symm _ _ _ ⟨rfl, rfl, aA.sub ⟨rfl, trivial⟩⟩))
 rintro qV W7 WH acB ⟨rfl, rfl, F4⟩ hM
 refine At.sub F4 ?_
 refine sg bn ?_
 refine vs 1 ?_
 refine At.s rfl rfl (Ox.G2 rfl rfl Tryz.underlying9 rfl (.put rfl) ?_)
 obtain ⟨tJ, GQ, hM⟩ := ao hM
 refine At.cv qk (qP (x0.size : Int) 1 12  GQ) ?_
 rintro _ _ _ ⟨rfl, rfl, rfl⟩
 refine vs 1 ?_
 refine er ?_
 obtain rfl := af hM
 exact rt Tryz.func215 (.tmp rfl .nil) sr (hk _ _ _ ⟨rfl, rfl, rfl⟩)
theorem axI (x0 : (List cG)) (x1 : (cG → Option Bool)) {v0 v1 : Value} (h0 : bC bm 5 R H v0 x0) (h1 : n4 ag R H (jR bm) VB v1 x1) {r : Int} (hM : C2 x0 x1 = some r) : aJ ag 218 #[v0, v1] R H (λ v R' H' => aN R R' ∧ H = H' ∧ v = iv r) := by
 unfold C2 at hM
 refine aJ.aX Tryz.func218 rfl (n := 19) rfl rfl λ fr cs hk => ?_
 refine sg aL ?_
 refine vs 1 ?_
 refine es ?_
 refine sg aS ?_
 refine vs 1 ?_
 refine lr h0 Tryz.underlying24 ?_
 refine vs 1 ?_
 refine er ?_
 refine At.block ?_
 refine At.fh hM (λ (dV : Int) R' H' st' => aN R R' ∧ H = H' ∧ aK st' [(0, v0), (1, v1), (7, iv (x0.length : Int)), (8, iv dV)]) (λ (HG : Unit) R' H' st' => aN R R' ∧ H = H' ∧ aK st' []) 0 rfl ⟨rr, rfl, aA.sub ⟨rfl, rfl, rfl, rfl, trivial⟩⟩ ?_ ?_
 rotate_right
 ·rintro dV WZ WC acy ⟨kz, rfl, F1⟩ cU hM ET E9 HD
  refine At.sub F1 ?_
  replace h0 := h0.le kz
  replace h1 := h1.up kz pp
  refine sg aL ?_
  refine vs 1 ?_
  refine es ?_
  refine sc hM (λ ot hM => ?_) (λ ot hM => ?_)
  ·refine sp ?_
   refine sq ?_
   refine At.block ?_
   refine sg aQ ?_
   refine vs 2 ?_
   refine nx dy ?_
   refine vs 3 ?_
   obtain ⟨fA, kG, hM⟩ := ao hM
   obtain ⟨dX, mG, hM⟩ := ao hM
   obtain ⟨X3, ab0, _, ⟨aQC, au2, rfl⟩, qu, FM⟩ := h0.elem gN kG
   refine At.s rfl rfl (Ox.bq rfl rfl rfl FM rfl (.put rfl) ?_)
   refine At.s rfl rfl (Ox.bP (vs := [_, _, _, _, _]) rfl rfl ko rfl ((qu.sub pp).part (j := 0) (n := 5) rfl) rfl (.put rfl) ?_)
   refine At.step rfl rfl rfl (Ox.B2 h1 rfl rfl rfl ⟨_, rfl, ⟨_, au2, rfl⟩⟩ mG rfl pp ?_)
   rintro _ wF eA rfl
   replace h0 := h0.le eA
   replace h1 := h1.up eA pp
   replace qu := qu.le eA
   refine ⟨_, (.put rfl), ?_⟩
   refine er ?_
   refine sc hM (λ Gl hM => ?_) (λ Gl hM => ?_)
   ·refine sg aQ ?_
    refine vs 2 ?_
    refine er ?_
    replace hM := HD _ (af hM).symm
    obtain rfl := af hM
    exact rt Tryz.func218 (.tmp rfl .nil) sr (hk _ _ _ ⟨(kz.trans eA), rfl, rfl⟩)
   refine sp ?_
   refine At.inBlock ?_
   refine At.rg aQ ?_
   refine vs 2 ?_
   refine er ?_
   exact ET _ (af hM).symm _ _ _ ⟨(kz.trans eA), rfl, aA.sub ⟨rfl, rfl, rfl, rfl, trivial⟩⟩
  exact At.exit rfl (E9 _ (af hM).symm _ _ _ ⟨kz, rfl, aA.sub trivial⟩)
 rintro HG W0 WD acz ⟨Fo, rfl, F2⟩ hM
 refine At.sub F2 ?_
 refine sg aL ?_
 refine vs 1 ?_
 refine er ?_
 obtain rfl := af hM
 exact rt Tryz.func218 (.tmp rfl .nil) sr (hk _ _ _ ⟨Fo, rfl, rfl⟩)
theorem axG (x0 : (List cG)) (x1 : (cG → Option Bool)) {v0 v1 : Value} (h0 : bC bm 5 R H v0 x0) (h1 : n4 ag R H (jR bm) VB v1 x1) {r : Bool} (hM : AU x0 x1 = some r) : aJ ag 216 #[v0, v1] R H (λ v R' H' => aN R R' ∧ H = H' ∧ v = .bool r) := by
 unfold AU at hM
 refine aJ.aX Tryz.func216 rfl (n := 9) rfl rfl λ fr cs hk => ?_
 refine sg aL ?_
 refine vs 1 ?_
 refine nx bT ?_
 refine vs 2 ?_
 obtain ⟨cA, ff, hM⟩ := ao hM
 refine At.cv aiY (axI x0 x1 (h0.sub pp) h1 ff) ?_
 rintro _ BT _ ⟨fV, rfl, rfl⟩
 replace h0 := h0.le fV
 replace h1 := h1.up fV pp
 refine vs 2 ?_
 refine er ?_
 obtain rfl := af hM
 exact rt Tryz.func216 (.tmp rfl .nil) sr (hk _ _ _ ⟨fV, rfl, rfl⟩)
theorem axH (x0 : cG) (x1 : cG) {aD iH : Value} {b1 : Nat} (_ : aj CZ 1 R aD x0.On) (cN : aT R H b1 0 [.string x1.Name, iv x1.dz, iv x1.Weight.an, iv x1.Weight.ax, iH]) (_ : aj CZ 1 R iH x1.On) {r : Bool} (hM : AV x0 x1 = some r) : aJ ag 217 #[.agg #[.string x0.Name, iv x0.dz, iv x0.Weight.an, iv x0.Weight.ax, aD], .pointer (some ⟨b1, 0, none⟩)] R H (λ v R' H' => R = R' ∧ H = H' ∧ v = .bool r) := by
 unfold AV at hM
 refine aJ.aX Tryz.func217 rfl (n := 9) rfl rfl λ fr cs hk => ?_
 refine sg aQ ?_
 refine bx λ m7 => ?_
 refine vs 1 ?_
 refine nx dy ?_
 refine vs 1 ?_
 refine ld 0 s6 z0 ?_
 refine vs 1 ?_
 refine At.ld s6 ((cN.sub (su (so sr))).one (j := 0) rfl) ?_
 refine At.s rfl rfl (Ox.Pg rfl rfl rfl rfl rfl (.put rfl) ?_)
 refine vs 1 ?_
 refine er ?_
 obtain rfl := af hM
 exact rt Tryz.func217 (.tmp rfl .nil) (so sr) (hk _ _ _ ⟨rfl, rfl, rfl⟩)
theorem axy (x0 : aq) {aC aD aH : Value} (ay : aj bm 5 R aC x0.az) (_ : aj CZ 1 R aD x0.Out) (_ : aj bh 2 R aH x0.aO) {r : Int} (hM : AQ x0 = some r) : aJ ag 212 #[.agg #[iv x0.aE, iv x0.aa.an, iv x0.aa.ax, aC, aD, aH]] R H (λ v R' H' => aN R R' ∧ H = H' ∧ v = iv r) := by
 unfold AQ at hM
 refine aJ.aX Tryz.func212 rfl (n := 53) rfl rfl λ fr cs hk => ?_
 refine sg aQ ?_
 refine bx λ Jv => ?_
 refine vs 1 ?_
 refine es ?_
 refine sg dy ?_
 refine vs 2 ?_
 refine ld 3 cK z0 ?_
 refine ls ay Tryz.underlying24 ?_
 obtain ⟨Wt, as6, hM⟩ := ao hM
 refine At.cv qk (qP (x0.az.length : Int) 1 5  as6) ?_
 rintro _ _ _ ⟨rfl, rfl, rfl⟩
 refine vs 1 ?_
 refine er ?_
 refine sc hM (λ aam hM => ?_) (λ aam hM => ?_)
 ·refine sg aL ?_
  refine vs 1 ?_
  refine er ?_
  obtain rfl := af hM
  exact rt Tryz.func212 (.tmp rfl .nil) (so sr) (hk _ _ _ ⟨(rr), rfl, rfl⟩)
 refine sp ?_
 refine sq ?_
 refine sg bT ?_
 refine vs 2 ?_
 refine ld 3 cK z0 ?_
 refine ls ay Tryz.underlying24 ?_
 refine vs 1 ?_
 refine er ?_
 refine At.block ?_
 refine At.fh hM (λ (qX : Int) R' H' st' => aN R R' ∧ H' = (Jv, .cells #[iv x0.aE, iv x0.aa.an, iv x0.aa.ax, aC, aD, aH] 102) :: H ∧ aK st' [(1, .pointer (some ⟨Jv, 0, none⟩)), (14, aC), (15, iv (x0.az.length : Int)), (16, iv qX)]) (λ (ayF : Unit) R' H' st' => aN R R' ∧ H = H' ∧ aK st' []) 0 rfl ⟨rr, rfl, aA.sub ⟨rfl, rfl, rfl, rfl, trivial⟩⟩ ?_ ?_
 rotate_right
 ·rintro qX aGd aEh aNK ⟨zx, rfl, apO⟩ kO hM agV ajf Lu
  refine At.sub apO ?_
  replace ay := ay.mono zx
  refine sg aL ?_
  refine vs 1 ?_
  refine es ?_
  refine sc hM (λ ar1 hM => ?_) (λ ar1 hM => ?_)
  ·refine sp ?_
   refine sq ?_
   refine At.block ?_
   refine sg dy ?_
   refine vs 1 ?_
   obtain ⟨lH, atL, hM⟩ := ao hM
   obtain ⟨aJE, aMK, _, ⟨aAv, GF, rfl⟩, alH, ant⟩ := ay.elem gN atL
   refine At.s rfl rfl (Ox.bq rfl rfl rfl ant rfl (.put rfl) ?_)
   refine At.s rfl rfl (Ox.bP (vs := [_, _, _, _, _]) rfl rfl ko rfl (alH.any.part (j := 0) (n := 5) rfl) rfl (.put rfl) ?_)
   refine At.s rfl rfl (Ox.alloc (cs := #[.string (⟨#[]⟩), iv 0, iv 0, iv 0, .slice none 0 0]) rfl vO rfl λ XU _ _ => ⟨_, (.put rfl), ?_⟩)
   refine vs 1 ?_
   refine At.s rfl rfl (Ox.bp (cs' := #[_, _, _, _, _]) rfl rfl rfl ko rfl (ak rfl (ak rfl (ak rfl (ak rfl (ak GF.one aW))))) .here rfl rfl rfl (.refl _) ?_)
   refine es ?_
   refine At.block ?_
   refine sg bT ?_
   refine vs 1 ?_
   refine ld 0 s6 z0 ?_
   obtain ⟨adC, atM, hM⟩ := ao hM
   refine At.cv aiV (axE lH.Name  atM) ?_
   rintro _ _ _ ⟨rfl, rfl, rfl⟩
   refine vs 2 ?_
   refine er ?_
   refine sc hM (λ ar4 hM => ?_) (λ ar4 hM => ?_)
   ·refine sg aL ?_
    refine vs 1 ?_
    refine er ?_
    replace hM := Lu _ (af hM).symm
    obtain rfl := af hM
    exact rt Tryz.func212 (.tmp rfl .nil) (so (so sr)) (hk _ _ _ ⟨zx, rfl, rfl⟩)
   refine sg eC ?_
   refine vs 2 ?_
   refine ld 3 cK z1 ?_
   refine vs 1 ?_
   obtain ⟨Vk, atP, hM⟩ := ao hM
   obtain ⟨adE, atS, hM⟩ := ao hM
   obtain ⟨aP0, atQ, aom⟩ := ay.cut gN atP
   refine At.s rfl rfl (Ox.wM rfl rfl rfl rfl aom rfl (.put rfl) ?_)
   refine At.s rfl rfl (Ox.makeFunc (vs := #[]) (us := #[_]) rfl rfl rfl rfl (.put rfl) ?_)
   refine At.cv aiW (axG Vk (λ y => AV y lH) atQ.rd ⟨217, #[], #[_], rfl, aiX, λ R' H' hR hH y r va hA hr => by obtain ⟨_, rfl, ⟨oN, fN, rfl⟩⟩ := hA; exact (axH y lH fN (aT.box (hH _ z0)) (GF.mono hR) hr).mono λ _ _ _ ⟨h1, h2, h3⟩ => ⟨h1 ▸ rr, h2.symm, h3⟩⟩ atS) ?_
   rintro _ agM _ ⟨Fz, rfl, rfl⟩
   replace GF := GF.mono Fz
   refine vs 1 ?_
   refine er ?_
   refine sc hM (λ Gf hM => ?_) (λ Gf hM => ?_)
   ·refine sg aL ?_
    refine vs 1 ?_
    refine er ?_
    replace hM := Lu _ (af hM).symm
    obtain rfl := af hM
    exact rt Tryz.func212 (.tmp rfl .nil) (so (so sr)) (hk _ _ _ ⟨(zx.trans Fz), rfl, rfl⟩)
   refine sq ?_
   refine At.gR hM (λ (LG : Bool) R' H' st' => agM = R' ∧ H' = (XU, .cells #[.string lH.Name, iv lH.dz, iv lH.Weight.an, iv lH.Weight.ax, aAv] 58) :: (Jv, .cells #[iv x0.aE, iv x0.aa.an, iv x0.aa.ax, aC, aD, aH] 102) :: H ∧ aK st' [(1, .pointer (some ⟨Jv, 0, none⟩)), (3, iv qX), (4, .pointer (some ⟨XU, 0, none⟩)), (14, aC), (15, iv (x0.az.length : Int)), (16, iv qX), (34, .bool LG)])  ?_ ?_
   rotate_right
   ·intro Ip hM Y3
    refine At.rg yO ?_
    refine vs 1 ?_
    refine ld 1 bg z0 ?_
    obtain ⟨adF, atV, hM⟩ := ao hM
    refine At.cv qk (qP lH.dz (-9) 9  atV) ?_
    rintro _ _ _ ⟨rfl, rfl, rfl⟩
    refine vs 2 ?_
    refine bA hM (λ Sl hM => ?_) (λ Sl hM => ?_)
    ·refine At.kn 39 Sl ?_
     refine vs 6 ?_
     refine er ?_
     exact Y3 _ (af hM).symm _ _ _ ⟨rfl, rfl, aA.sub ⟨rfl, rfl, rfl, rfl, rfl, rfl, rfl, trivial⟩⟩
    refine At.kn 39 Sl ?_
    refine vs 1 ?_
    refine lN [_, _] 2 2 eJ z0 ?_
    obtain ⟨adG, atX, hM⟩ := ao hM
    refine At.cv Py (Uc lH.Weight 1 99 3  atX) ?_
    rintro _ _ _ ⟨rfl, rfl, rfl⟩
    refine vs 3 ?_
    refine er ?_
    exact Y3 _ (af hM).symm _ _ _ ⟨rfl, rfl, aA.sub ⟨rfl, rfl, rfl, rfl, rfl, rfl, rfl, trivial⟩⟩
   rintro LG aGy aED aN8 ⟨rfl, rfl, aqc⟩ hM
   refine At.sub aqc ?_
   refine sc hM (λ Ab hM => ?_) (λ Ab hM => ?_)
   ·refine sg aL ?_
    refine vs 1 ?_
    refine er ?_
    replace hM := Lu _ (af hM).symm
    obtain rfl := af hM
    exact rt Tryz.func212 (.tmp rfl .nil) (so (so sr)) (hk _ _ _ ⟨(zx.trans Fz), rfl, rfl⟩)
   refine sp ?_
   refine At.inBlock ?_
   refine sg bT ?_
   refine vs 1 ?_
   refine ld 4 bL z0 ?_
   refine vs 1 ?_
   obtain ⟨M3, atY, hM⟩ := ao hM
   refine At.cv PC (Ug lH.On qX GF.rd atY) ?_
   rintro _ _ _ ⟨rfl, rfl, rfl⟩
   refine vs 1 ?_
   refine nx aQ ?_
   refine vs 2 ?_
   refine er ?_
   refine sc hM (λ ar8 hM => ?_) (λ ar8 hM => ?_)
   ·refine sg aQ ?_
    refine vs 2 ?_
    refine er ?_
    replace hM := Lu _ (af hM).symm
    obtain rfl := af hM
    exact rt Tryz.func212 (.tmp rfl .nil) (so (so sr)) (hk _ _ _ ⟨(zx.trans Fz), rfl, rfl⟩)
   refine sp ?_
   refine At.inBlock ?_
   refine At.rg aQ ?_
   refine vs 2 ?_
   refine er ?_
   exact At.drop (so sr) (agV _ (af hM).symm _ _ _ ⟨(zx.trans Fz), rfl, aA.sub ⟨rfl, rfl, rfl, rfl, trivial⟩⟩)
  exact At.exit rfl (At.drop (so sr) (ajf _ (af hM).symm _ _ _ ⟨zx, rfl, aA.sub trivial⟩))
 rintro ayF aGe aEi aNL ⟨akA, rfl, apP⟩ hM
 refine At.sub apP ?_
 refine sg aL ?_
 refine vs 1 ?_
 refine er ?_
 obtain rfl := af hM
 exact rt Tryz.func212 (.tmp rfl .nil) sr (hk _ _ _ ⟨akA, rfl, rfl⟩)
theorem fX (x0 : (List Bool)) (x1 : (List Int)) {v1 : Value} (l0 : x0.length = 5) (h1 : bC CZ 1 R H v1 x1) {r : (List Bool)} (hM : iD x0 x1 = some r) : aJ ag 93 #[.agg (List.toArray ([] ++ (x0.map Value.bool ++ []))), v1] R H (λ v R' H' => R = R' ∧ H = H' ∧ r.length = 5 ∧ v = .agg (List.toArray ([] ++ (r.map Value.bool ++ [])))) := by
 unfold iD at hM
 refine aJ.aX Tryz.func93 rfl (n := 17) rfl rfl λ fr cs hk => ?_
 refine sg aQ ?_
 refine bx λ m8 => ?_
 refine At.s rfl rfl (Ox.alloc (cs := (List.toArray ([] ++ ([false, false, false, false, false].map Value.bool ++ [])))) rfl j7 rfl λ fS _ _ => ⟨_, (.put rfl), ?_⟩)
 refine es ?_
 refine sg aS ?_
 refine vs 1 ?_
 refine lr h1 Tryz.underlying25 ?_
 refine vs 1 ?_
 refine er ?_
 refine At.block ?_
 refine At.c8 hM (λ (iG : (Int × (List Bool))) R' H' st' => R = R' ∧ iG.2.length = 5 ∧ H' = (fS, .cells (List.toArray ([] ++ ([false, false, false, false, false].map Value.bool ++ []))) 112) :: (m8, .cells (List.toArray ([] ++ (iG.2.map Value.bool ++ []))) 112) :: H ∧ aK st' [(2, .pointer (some ⟨m8, 0, none⟩)), (4, .pointer (some ⟨fS, 0, none⟩)), (7, v1), (8, iv (x1.length : Int)), (9, iv iG.1)]) (λ (s7 : (List Bool)) R' H' st' => R = R' ∧ s7.length = 5 ∧ H' = (fS, .cells (List.toArray ([] ++ ([false, false, false, false, false].map Value.bool ++ []))) 112) :: (m8, .cells (List.toArray ([] ++ (s7.map Value.bool ++ []))) 112) :: H ∧ aK st' [(2, .pointer (some ⟨m8, 0, none⟩)), (4, .pointer (some ⟨fS, 0, none⟩))]) 0 rfl ⟨rfl, l0, rfl, aA.sub ⟨rfl, rfl, rfl, rfl, rfl, trivial⟩⟩ ?_ ?_
 rotate_right
 ·rintro iG R40 H40 azI ⟨rfl, TP, rfl, RL⟩ gP hM OQ PS
  refine At.sub RL ?_
  refine sg aL ?_
  refine vs 1 ?_
  refine es ?_
  refine sc hM (λ SV hM => ?_) (λ SV hM => ?_)
  ·refine sp ?_
   refine sq ?_
   refine At.block ?_
   refine sg aS ?_
   obtain ⟨Bq, Tw, hM⟩ := ao hM
   obtain ⟨aJ3, aM2, _, rfl, alY, anP⟩ := h1.elem cL Tw
   refine At.s rfl rfl (Ox.bq rfl rfl rfl anP rfl (.put rfl) ?_)
   refine At.ld bg ((alY.sub (su (so (so sr)))).one (j := 0) rfl) ?_
   refine vs 1 ?_
   refine er ?_
   refine At.rg aS ?_
   refine vs 1 ?_
   obtain ⟨fA, kG, hM⟩ := ao hM
   refine At.s rfl rfl (Ox.bq rfl rfl rfl (sW BW TP kG) rfl (.put rfl) ?_)
   refine At.s rfl rfl (Ox.cM rfl rfl rfl iS rfl (.there .here) (OY kG rfl) (OZ kG rfl) rfl (.refl _) ?_)
   refine er ?_
   refine At.inBlock ?_
   refine At.rg aQ ?_
   refine vs 2 ?_
   refine er ?_
   exact OQ _ (af hM).symm _ _ _ ⟨rfl, ((List.length_set).trans TP), rfl, aA.sub ⟨rfl, rfl, rfl, rfl, rfl, trivial⟩⟩
  exact At.exit rfl (PS _ (af hM).symm _ _ _ ⟨rfl, TP, rfl, aA.sub ⟨rfl, rfl, trivial⟩⟩)
 rintro s7 agA afZ azJ ⟨rfl, CE, rfl, RM⟩ hM
 refine At.sub RM ?_
 refine sg aQ ?_
 refine At.s rfl rfl (Ox.bP (vs := _) rfl rfl dc (by simp [CE]) ((aT.box z1).part (j := 0) (n := 5) (eE (by simp [CE]))) rfl (.put rfl) ?_)
 refine At.s rfl rfl (Ox.bp (cs' := _) rfl rfl rfl dc (by simp [CE]) (cr aW (cr (eM λ _ => rfl) aW)) .here (by simp) (eB (by simp [CE])) rfl (.refl _) ?_)
 refine er ?_
 obtain rfl := af hM
 exact rt Tryz.func93 (.agg rfl dc (by simp [CE]) (aT.box z0) .nil) (so (so sr)) (hk _ _ _ ⟨rfl, rfl, CE, rfl⟩)
theorem Ub (x0 : aq) (x1 : Int) {aC aD aH : Value} (ay : aj bm 5 R aC x0.az) (_ : aj CZ 1 R aD x0.Out) (_ : aj bh 2 R aH x0.aO) {r : Bool} (hM : sX x0 x1 = some r) : aJ ag 120 #[.agg #[iv x0.aE, iv x0.aa.an, iv x0.aa.ax, aC, aD, aH], iv x1] R H (λ v R' H' => R = R' ∧ H = H' ∧ v = .bool r) := by
 unfold sX at hM
 refine aJ.aX Tryz.func120 rfl (n := 12) rfl rfl λ fr cs hk => ?_
 refine sg aQ ?_
 refine bx λ jU => ?_
 refine vs 1 ?_
 refine nx eC ?_
 refine vs 3 ?_
 refine ld 3 cK z0 ?_
 refine ls ay Tryz.underlying24 ?_
 refine vs 1 ?_
 obtain ⟨ig, lp, hM⟩ := ao hM
 refine At.cv qk (qP x1 0 (i64 ((x0.az.length : Int) - 1))  lp) ?_
 rintro _ _ _ ⟨rfl, rfl, rfl⟩
 refine vs 1 ?_
 refine er ?_
 obtain rfl := af hM
 exact rt Tryz.func120 (.tmp rfl .nil) (so sr) (hk _ _ _ ⟨rfl, rfl, rfl⟩)
theorem axj (x0 : (List Int)) (x1 : (Int → Option Bool)) {v0 v1 : Value} (h0 : bC CZ 1 R H v0 x0) (h1 : n4 ag R H (VI .i64) VB v1 x1) {r : Int} (hM : CY x0 x1 = some r) : aJ ag 171 #[v0, v1] R H (λ v R' H' => aN R R' ∧ H = H' ∧ v = iv r) := by
 unfold CY at hM
 refine aJ.aX Tryz.func171 rfl (n := 19) rfl rfl λ fr cs hk => ?_
 refine sg aL ?_
 refine vs 1 ?_
 refine es ?_
 refine sg aS ?_
 refine vs 1 ?_
 refine lr h0 Tryz.underlying25 ?_
 refine vs 1 ?_
 refine er ?_
 refine At.block ?_
 refine At.fh hM (λ (dV : Int) R' H' st' => aN R R' ∧ H = H' ∧ aK st' [(0, v0), (1, v1), (7, iv (x0.length : Int)), (8, iv dV)]) (λ (HG : Unit) R' H' st' => aN R R' ∧ H = H' ∧ aK st' []) 0 rfl ⟨rr, rfl, aA.sub ⟨rfl, rfl, rfl, rfl, trivial⟩⟩ ?_ ?_
 rotate_right
 ·rintro dV WZ WC acy ⟨kz, rfl, F1⟩ cU hM ET E9 HD
  refine At.sub F1 ?_
  replace h0 := h0.le kz
  replace h1 := h1.up kz pp
  refine sg aL ?_
  refine vs 1 ?_
  refine es ?_
  refine sc hM (λ ot hM => ?_) (λ ot hM => ?_)
  ·refine sp ?_
   refine sq ?_
   refine At.block ?_
   refine sg aQ ?_
   refine vs 2 ?_
   refine nx dy ?_
   refine vs 3 ?_
   obtain ⟨fA, kG, hM⟩ := ao hM
   obtain ⟨dX, mG, hM⟩ := ao hM
   obtain ⟨X3, ab0, _, rfl, qu, FM⟩ := h0.elem cL kG
   refine At.s rfl rfl (Ox.bq rfl rfl rfl FM rfl (.put rfl) ?_)
   refine At.ld bg ((qu.sub pp).one (j := 0) rfl) ?_
   refine At.step rfl rfl rfl (Ox.B2 h1 rfl rfl rfl rfl mG rfl pp ?_)
   rintro _ wF eA rfl
   replace h0 := h0.le eA
   replace h1 := h1.up eA pp
   replace qu := qu.le eA
   refine ⟨_, (.put rfl), ?_⟩
   refine er ?_
   refine sc hM (λ Gl hM => ?_) (λ Gl hM => ?_)
   ·refine sg aQ ?_
    refine vs 2 ?_
    refine er ?_
    replace hM := HD _ (af hM).symm
    obtain rfl := af hM
    exact rt Tryz.func171 (.tmp rfl .nil) sr (hk _ _ _ ⟨(kz.trans eA), rfl, rfl⟩)
   refine sp ?_
   refine At.inBlock ?_
   refine At.rg aQ ?_
   refine vs 2 ?_
   refine er ?_
   exact ET _ (af hM).symm _ _ _ ⟨(kz.trans eA), rfl, aA.sub ⟨rfl, rfl, rfl, rfl, trivial⟩⟩
  exact At.exit rfl (E9 _ (af hM).symm _ _ _ ⟨kz, rfl, aA.sub trivial⟩)
 rintro HG W0 WD acz ⟨Fo, rfl, F2⟩ hM
 refine At.sub F2 ?_
 refine sg aL ?_
 refine vs 1 ?_
 refine er ?_
 obtain rfl := af hM
 exact rt Tryz.func171 (.tmp rfl .nil) sr (hk _ _ _ ⟨Fo, rfl, rfl⟩)
theorem abC (x0 : (List Int)) (x1 : (Int → Option Bool)) {v0 v1 : Value} (h0 : bC CZ 1 R H v0 x0) (h1 : n4 ag R H (VI .i64) VB v1 x1) {r : Bool} (hM : xJ x0 x1 = some r) : aJ ag 158 #[v0, v1] R H (λ v R' H' => aN R R' ∧ H = H' ∧ v = .bool r) := by
 unfold xJ at hM
 refine aJ.aX Tryz.func158 rfl (n := 9) rfl rfl λ fr cs hk => ?_
 refine sg aL ?_
 refine vs 1 ?_
 refine nx bT ?_
 refine vs 2 ?_
 obtain ⟨cA, ff, hM⟩ := ao hM
 refine At.cv aiJ (axj x0 x1 (h0.sub pp) h1 ff) ?_
 rintro _ BT _ ⟨fV, rfl, rfl⟩
 replace h0 := h0.le fV
 replace h1 := h1.up fV pp
 refine vs 2 ?_
 refine er ?_
 obtain rfl := af hM
 exact rt Tryz.func158 (.tmp rfl .nil) sr (hk _ _ _ ⟨fV, rfl, rfl⟩)
theorem axt (x0 : (List Int)) (x1 : Int) {v0 : Value} (h0 : bC CZ 1 R H v0 x0) {r : Int} (hM : C1 x0 x1 = some r) : aJ ag 188 #[v0, iv x1] R H (λ v R' H' => R = R' ∧ H = H' ∧ v = iv r) := by
 unfold C1 at hM
 refine aJ.aX Tryz.func188 rfl (n := 19) rfl rfl λ fr cs hk => ?_
 refine sg aL ?_
 refine vs 1 ?_
 refine es ?_
 refine sg aS ?_
 refine vs 1 ?_
 refine lr h0 Tryz.underlying25 ?_
 refine vs 1 ?_
 refine er ?_
 refine At.block ?_
 refine At.fh hM (λ (dG : Int) R' H' st' => R = R' ∧ H = H' ∧ aK st' [(0, v0), (1, iv x1), (7, iv (x0.length : Int)), (8, iv dG)]) (λ (jm : Unit) R' H' st' => R = R' ∧ H = H' ∧ aK st' []) 0 rfl ⟨rfl, rfl, aA.sub ⟨rfl, rfl, rfl, rfl, trivial⟩⟩ ?_ ?_
 rotate_right
 ·rintro dG WY WB acw ⟨rfl, rfl, F0⟩ cJ hM ES wR HC
  refine At.sub F0 ?_
  refine sg aL ?_
  refine vs 1 ?_
  refine es ?_
  refine sc hM (λ uM hM => ?_) (λ uM hM => ?_)
  ·refine sp ?_
   refine sq ?_
   refine At.block ?_
   refine sg aQ ?_
   refine vs 2 ?_
   refine nx dy ?_
   refine vs 3 ?_
   obtain ⟨oQ, Ap, hM⟩ := ao hM
   obtain ⟨ahT, ayx, _, rfl, QH, Q3⟩ := h0.elem cL Ap
   refine At.s rfl rfl (Ox.bq rfl rfl rfl Q3 rfl (.put rfl) ?_)
   refine At.ld bg ((QH.sub pp).one (j := 0) rfl) ?_
   refine vs 1 ?_
   refine er ?_
   refine sc hM (λ uN hM => ?_) (λ uN hM => ?_)
   ·refine sg aQ ?_
    refine vs 2 ?_
    refine er ?_
    replace hM := HC _ (af hM).symm
    obtain rfl := af hM
    exact rt Tryz.func188 (.tmp rfl .nil) sr (hk _ _ _ ⟨rfl, rfl, rfl⟩)
   refine sp ?_
   refine At.inBlock ?_
   refine At.rg aQ ?_
   refine vs 2 ?_
   refine er ?_
   exact ES _ (af hM).symm _ _ _ ⟨rfl, rfl, aA.sub ⟨rfl, rfl, rfl, rfl, trivial⟩⟩
  exact At.exit rfl (wR _ (af hM).symm _ _ _ ⟨rfl, rfl, aA.sub trivial⟩)
 rintro jm OF N7 UP ⟨rfl, rfl, zZ⟩ hM
 refine At.sub zZ ?_
 refine sg aL ?_
 refine vs 1 ?_
 refine er ?_
 obtain rfl := af hM
 exact rt Tryz.func188 (.tmp rfl .nil) sr (hk _ _ _ ⟨rfl, rfl, rfl⟩)
theorem axo (x0 : (List Int)) (x1 : Int) {v0 : Value} (h0 : bC CZ 1 R H v0 x0) {r : Bool} (hM : AN x0 x1 = some r) : aJ ag 175 #[v0, iv x1] R H (λ v R' H' => R = R' ∧ H = H' ∧ v = .bool r) := by
 unfold AN at hM
 refine aJ.aX Tryz.func175 rfl (n := 9) rfl rfl λ fr cs hk => ?_
 refine sg aL ?_
 refine vs 1 ?_
 refine nx bT ?_
 refine vs 2 ?_
 obtain ⟨cA, ff, hM⟩ := ao hM
 refine At.cv aiQ (axt x0 x1 (h0.sub pp) ff) ?_
 rintro _ _ _ ⟨rfl, rfl, rfl⟩
 refine vs 2 ?_
 refine er ?_
 obtain rfl := af hM
 exact rt Tryz.func175 (.tmp rfl .nil) sr (hk _ _ _ ⟨rfl, rfl, rfl⟩)
theorem axe (x0 : aq) (x1 : Int) {aC aD aH : Value} (ay : aj bm 5 R aC x0.az) (_ : aj CZ 1 R aD x0.Out) (_ : aj bh 2 R aH x0.aO) {r : (List Int)} (hM : AK x0 x1 = some r) : aJ ag 166 #[.agg #[iv x0.aE, iv x0.aa.an, iv x0.aa.ax, aC, aD, aH], iv x1] R H (λ v R' H' => aN R R' ∧ H = H' ∧ ∃ bU, aj CZ 1 R' bU r ∧ v = bU) := by
 unfold AK at hM
 refine aJ.aX Tryz.func166 rfl (n := 27) rfl rfl λ fr cs hk => ?_
 refine sg aQ ?_
 refine bx λ r7 => ?_
 refine vs 1 ?_
 refine nx aL ?_
 refine vs 1 ?_
 refine es ?_
 refine sg bT ?_
 refine vs 2 ?_
 refine ld 3 cK z0 ?_
 refine ls ay Tryz.underlying24 ?_
 refine vs 1 ?_
 refine er ?_
 refine At.block ?_
 refine At.drop (H' := H) (so sr) ?_
 refine At.c8 hM (λ (ey : ((List Int) × Int)) R' H' st' => R = R' ∧ ∃ HX EB, aZ CZ 1 3 R' HX ey.1 EB ∧ H' = EB ++ (H) ∧ aK st' [(1, iv x1), (5, HX), (10, aC), (11, iv (x0.az.length : Int)), (12, iv ey.2)]) (λ (qV : (List Int)) R' H' st' => R = R' ∧ ∃ Mw Ol, aZ CZ 1 3 R' Mw qV Ol ∧ H' = Ol ++ (H) ∧ aK st' [(5, Mw)]) 0 rfl ⟨rfl, .slice none 0 0, [], aZ.nil, rfl, aA.sub ⟨rfl, rfl, rfl, rfl, rfl, trivial⟩⟩ ?_ ?_
 rotate_right
 ·rintro ey W6 WG acA ⟨rfl, HX, EB, Ro, rfl, F3⟩ mS hM wG Fb
  refine At.sub F3 ?_
  refine sg aL ?_
  refine vs 1 ?_
  refine es ?_
  refine sc hM (λ Gu hM => ?_) (λ Gu hM => ?_)
  ·refine sp ?_
   refine sq ?_
   refine At.block ?_
   refine sg dy ?_
   refine vs 1 ?_
   obtain ⟨j6, xA, hM⟩ := ao hM
   obtain ⟨ahY, ayC, _, ⟨aQP, aa2, rfl⟩, QM, Q8⟩ := ay.elem gN xA
   refine At.s rfl rfl (Ox.bq rfl rfl rfl Q8 rfl (.put rfl) ?_)
   refine At.s rfl rfl (Ox.bP (vs := [_, _, _, _, _]) rfl rfl ko rfl (QM.any.part (j := 0) (n := 5) rfl) rfl (.put rfl) ?_)
   refine At.s rfl rfl (Ox.alloc (cs := #[.string (⟨#[]⟩), iv 0, iv 0, iv 0, .slice none 0 0]) rfl vO rfl λ b74 _ _ => ⟨_, (.put rfl), ?_⟩)
   refine vs 1 ?_
   refine At.s rfl rfl (Ox.bp (cs' := #[_, _, _, _, _]) rfl rfl rfl ko rfl (ak rfl (ak rfl (ak rfl (ak rfl (ak aa2.one aW))))) .here rfl rfl rfl (.refl _) ?_)
   refine nx bn ?_
   refine vs 1 ?_
   refine ld 4 bL z0 ?_
   refine vs 1 ?_
   obtain ⟨iY, pG, hM⟩ := ao hM
   refine At.cv aiM (axo j6.On x1 aa2.rd pG) ?_
   rintro _ _ _ ⟨rfl, rfl, rfl⟩
   refine er ?_
   refine sc hM (λ uO hM => ?_) (λ uO hM => ?_)
   ·refine At.rg bT ?_
    refine vs 2 ?_
    refine At.s rfl rfl (Ox.buildSlice (cells := #[_]) rfl ck rfl (by decide) cS (bf rfl rfl rfl rfl aY) rfl λ NS _ _ => ⟨_, (.put rfl), ?_⟩)
    obtain ⟨jx, pH, hM⟩ := ao hM
    refine At.s rfl rfl (Ox.append (K := CZ) (λ X => (NS, _) :: (b74, _) :: X ++ (H)) rfl rfl rfl cR Tryz.underlying25 (by simp) (.cons (.cons .id)) Ro (cE.lit z0 (aG.le (aG.cons (x := ey.2) rfl rfl aG.nil) rfl) rfl) pH rfl λ Vd agn apl => ⟨_, (.put rfl), ?_⟩)
    refine vs 1 ?_
    refine er ?_
    refine At.inBlock ?_
    refine At.rg aQ ?_
    refine vs 2 ?_
    refine er ?_
    exact At.drop (so (so sr)) (wG _ (af hM).symm _ _ _ ⟨rfl, Vd, agn, apl, rfl, aA.sub ⟨rfl, rfl, rfl, rfl, rfl, trivial⟩⟩)
   refine sp ?_
   refine At.inBlock ?_
   refine At.rg aQ ?_
   refine vs 2 ?_
   refine er ?_
   exact At.drop (so sr) (wG _ (af hM).symm _ _ _ ⟨rfl, HX, EB, Ro, rfl, aA.sub ⟨rfl, rfl, rfl, rfl, rfl, trivial⟩⟩)
  exact At.exit rfl (Fb _ (af hM).symm _ _ _ ⟨rfl, HX, EB, Ro, rfl, aA.sub ⟨rfl, trivial⟩⟩)
 rintro qV W7 WH acB ⟨rfl, Mw, Ol, aoR, rfl, F4⟩ hM
 refine At.sub F4 ?_
 refine sg aQ ?_
 refine vs 2 ?_
 refine er ?_
 refine At.dB (H2 := H) (λ X => X ++ (H)) .id rfl aoR (λ aH0 ak1 amP => ?_)
 obtain rfl := af hM
 exact rt Tryz.func166 (.tmp rfl .nil) sr (hk _ _ _ ⟨ak1, rfl, Mw, amP, rfl⟩)
theorem axf (x0 : Int) (x1 : (List Bool)) {b1 : Nat} (cN : aT R H b1 0 ([] ++ (x1.map Value.bool ++ []))) (l1 : x1.length = 5) {r : Bool} (hM : AL x0 x1 = some r) : aJ ag 167 #[iv x0, .pointer (some ⟨b1, 0, none⟩)] R H (λ v R' H' => R = R' ∧ H = H' ∧ v = .bool r) := by
 unfold AL at hM
 refine aJ.aX Tryz.func167 rfl (n := 8) rfl rfl λ fr cs hk => ?_
 refine sg aL ?_
 refine vs 1 ?_
 refine nx bT ?_
 refine vs 1 ?_
 obtain ⟨cA, ff, hM⟩ := ao hM
 refine At.s rfl rfl (Ox.bq rfl rfl rfl (sW BW l1 ff) rfl (.put rfl) ?_)
 refine At.ld iS ((cN.sub pp).arr ff rfl) ?_
 refine vs 2 ?_
 refine er ?_
 obtain rfl := af hM
 exact rt Tryz.func167 (.tmp rfl .nil) sr (hk _ _ _ ⟨rfl, rfl, rfl⟩)
theorem abA (x0 : aq) (x1 : (List Bool)) (x2 : Int) {aC aD aH : Value} (ay : aj bm 5 R aC x0.az) (aB : aj CZ 1 R aD x0.Out) (aF : aj bh 2 R aH x0.aO) (l1 : x1.length = 5) {r : Bool} (hM : u9 x0 x1 x2 = some r) : aJ ag 149 #[.agg #[iv x0.aE, iv x0.aa.an, iv x0.aa.ax, aC, aD, aH], .agg (List.toArray ([] ++ (x1.map Value.bool ++ []))), iv x2] R H (λ v R' H' => aN R R' ∧ H = H' ∧ v = .bool r) := by
 unfold u9 at hM
 refine aJ.aX Tryz.func149 rfl (n := 19) rfl rfl λ fr cs hk => ?_
 refine sg aS ?_
 refine bx λ b26 => ?_
 refine bx λ jV => ?_
 refine vs 1 ?_
 refine nx BL ?_
 refine vs 1 ?_
 obtain ⟨oP, xl, hM⟩ := ao hM
 refine At.s rfl rfl (Ox.bq rfl rfl rfl (sW BW l1 xl) rfl (.put rfl) ?_)
 refine At.ld iS ((aT.box z0).arr xl rfl) ?_
 refine vs 2 ?_
 refine bA hM (λ Gh hM => ?_) (λ Gh hM => ?_)
 ·refine At.kn 11 Gh ?_
  refine lN [_, _, _, _, _, _] 0 6 ew z1 ?_
  refine vs 1 ?_
  obtain ⟨iW, xm, hM⟩ := ao hM
  refine At.cv aiE (axe x0 x2 ay aB aF xm) ?_
  rintro aQf aIx _ ⟨ak8, rfl, _, aup, rfl⟩
  refine At.s rfl rfl (Ox.makeFunc (vs := #[]) (us := #[_]) rfl rfl rfl rfl (.put rfl) ?_)
  obtain ⟨eH, mE, hM⟩ := ao hM
  refine At.cv YS (abC iW (λ y => AL y x1) aup.rd ⟨167, #[], #[_], rfl, aiF, λ R' H' hR hH y r va hA hr => by obtain rfl := hA; exact (axf y x1 (aT.box (hH _ z0)) l1 hr).mono λ _ _ _ ⟨h1, h2, h3⟩ => ⟨h1 ▸ rr, h2.symm, h3⟩⟩ mE) ?_
  rintro _ y8 _ ⟨cV, rfl, rfl⟩
  refine vs 3 ?_
  refine er ?_
  obtain rfl := af hM
  exact rt Tryz.func149 (.tmp rfl .nil) (so (so sr)) (hk _ _ _ ⟨(ak8.trans cV), rfl, rfl⟩)
 refine At.kn 11 Gh ?_
 refine vs 8 ?_
 refine er ?_
 obtain rfl := af hM
 exact rt Tryz.func149 (.tmp rfl .nil) (so (so sr)) (hk _ _ _ ⟨(rr), rfl, rfl⟩)
theorem pN (x0 : aq) (x1 : (List Bool)) (x2 : (List Int)) {aC aD aH v2 : Value} (ay : aj bm 5 R aC x0.az) (aB : aj CZ 1 R aD x0.Out) (aF : aj bh 2 R aH x0.aO) (l1 : x1.length = 5) (h2 : bC CZ 1 R H v2 x2) {r : ((List Bool) × Int)} (hM : vf x0 x1 x2 = some r) : aJ ag 99 #[.agg #[iv x0.aE, iv x0.aa.an, iv x0.aa.ax, aC, aD, aH], .agg (List.toArray ([] ++ (x1.map Value.bool ++ []))), v2] R H (λ v R' H' => aN R R' ∧ H = H' ∧ r.1.length = 5 ∧ v = .tuple #[.agg (List.toArray ([] ++ (r.1.map Value.bool ++ []))), iv r.2]) := by
 unfold vf at hM
 refine aJ.aX Tryz.func99 rfl (n := 40) rfl rfl λ fr cs hk => ?_
 refine sg bn ?_
 refine bx λ ob => ?_
 refine bx λ JC => ?_
 refine At.s rfl rfl (Ox.alloc (cs := (List.toArray ([] ++ ([false, false, false, false, false].map Value.bool ++ [])))) rfl j7 rfl λ nc _ _ => ⟨_, (.put rfl), ?_⟩)
 refine vs 1 ?_
 refine es ?_
 refine sg aS ?_
 refine vs 1 ?_
 refine lr h2 Tryz.underlying25 ?_
 refine vs 1 ?_
 refine er ?_
 refine At.block ?_
 refine At.fh hM (λ (fI : (Int × (List Bool))) R' H' st' => aN R R' ∧ fI.2.length = 5 ∧ H' = (nc, .cells (List.toArray ([] ++ ([false, false, false, false, false].map Value.bool ++ []))) 112) :: (JC, .cells (List.toArray ([] ++ (fI.2.map Value.bool ++ []))) 112) :: (ob, .cells #[iv x0.aE, iv x0.aa.an, iv x0.aa.ax, aC, aD, aH] 102) :: H ∧ aK st' [(3, .pointer (some ⟨ob, 0, none⟩)), (4, .pointer (some ⟨JC, 0, none⟩)), (6, .pointer (some ⟨nc, 0, none⟩)), (10, v2), (11, iv (x2.length : Int)), (12, iv fI.1)]) (λ (tM : (List Bool)) R' H' st' => aN R R' ∧ tM.length = 5 ∧ H' = (nc, .cells (List.toArray ([] ++ ([false, false, false, false, false].map Value.bool ++ []))) 112) :: (JC, .cells (List.toArray ([] ++ (tM.map Value.bool ++ []))) 112) :: H ∧ aK st' [(4, .pointer (some ⟨JC, 0, none⟩)), (6, .pointer (some ⟨nc, 0, none⟩))]) 0 rfl ⟨rr, l1, rfl, aA.sub ⟨rfl, rfl, rfl, rfl, rfl, rfl, trivial⟩⟩ ?_ ?_
 rotate_right
 ·rintro fI R99 H99 aPm ⟨uz, fH, rfl, art⟩ oX hM ahp adZ Uz
  refine At.sub art ?_
  replace ay := ay.mono uz
  replace aB := aB.mono uz
  replace aF := aF.mono uz
  replace h2 := h2.le uz
  refine sg aL ?_
  refine vs 1 ?_
  refine es ?_
  refine sc hM (λ F9 hM => ?_) (λ F9 hM => ?_)
  ·refine sp ?_
   refine sq ?_
   refine At.block ?_
   refine sg aS ?_
   obtain ⟨gQ, Nr, hM⟩ := ao hM
   obtain ⟨ahO, ayu, _, rfl, QE, Q0⟩ := h2.elem cL Nr
   refine At.s rfl rfl (Ox.bq rfl rfl rfl Q0 rfl (.put rfl) ?_)
   refine At.ld bg ((QE.sub (su (so (so (so sr))))).one (j := 0) rfl) ?_
   refine vs 1 ?_
   refine es ?_
   refine At.block ?_
   refine sg bT ?_
   refine lN [_, _, _, _, _, _] 0 6 ew z2 ?_
   refine vs 1 ?_
   obtain ⟨yS, aeK, hM⟩ := ao hM
   refine At.cv Px (Ub x0 gQ ay aB aF aeK) ?_
   rintro _ _ _ ⟨rfl, rfl, rfl⟩
   refine vs 2 ?_
   refine er ?_
   refine sc hM (λ arU hM => ?_) (λ arU hM => ?_)
   ·refine sg aS ?_
    refine At.s rfl rfl (Ox.bP (vs := _) rfl rfl dc (by simp [fH]) ((aT.box z1).part (j := 0) (n := 5) (eE (by simp [fH]))) rfl (.put rfl) ?_)
    refine At.s rfl rfl (Ox.bp (cs' := _) rfl rfl rfl dc (by simp [fH]) (cr aW (cr (eM λ _ => rfl) aW)) .here (by simp) (eB (by simp [fH])) rfl (.refl _) ?_)
    refine vs 1 ?_
    refine er ?_
    replace hM := Uz _ (af hM).symm
    obtain rfl := af hM
    exact rt Tryz.func99 (.agg rfl dc (by simp [fH]) (aT.box z0) (.tmp rfl .nil)) (so (so (so sr))) (hk _ _ _ ⟨uz, rfl, fH, rfl⟩)
   refine sg bn ?_
   refine vs 1 ?_
   obtain ⟨MU, aaw, hM⟩ := ao hM
   refine At.s rfl rfl (Ox.bq rfl rfl rfl (sW BW fH aaw) rfl (.put rfl) ?_)
   refine At.ld iS ((aT.box z1).arr aaw rfl) ?_
   refine vs 1 ?_
   refine er ?_
   refine sc hM (λ aao hM => ?_) (λ aao hM => ?_)
   ·refine sg aS ?_
    refine At.s rfl rfl (Ox.bP (vs := _) rfl rfl dc (by simp [fH]) ((aT.box z1).part (j := 0) (n := 5) (eE (by simp [fH]))) rfl (.put rfl) ?_)
    refine At.s rfl rfl (Ox.bp (cs' := _) rfl rfl rfl dc (by simp [fH]) (cr aW (cr (eM λ _ => rfl) aW)) .here (by simp) (eB (by simp [fH])) rfl (.refl _) ?_)
    refine vs 1 ?_
    refine er ?_
    replace hM := Uz _ (af hM).symm
    obtain rfl := af hM
    exact rt Tryz.func99 (.agg rfl dc (by simp [fH]) (aT.box z0) (.tmp rfl .nil)) (so (so (so sr))) (hk _ _ _ ⟨uz, rfl, fH, rfl⟩)
   refine sg dy ?_
   refine lN [_, _, _, _, _, _] 0 6 ew z2 ?_
   refine At.s rfl rfl (Ox.bP (vs := _) rfl rfl dc (by simp [fH]) ((aT.box z1).part (j := 0) (n := 5) (eE (by simp [fH]))) rfl (.put rfl) ?_)
   refine vs 1 ?_
   obtain ⟨MV, atj, hM⟩ := ao hM
   refine At.cv YP (abA x0 fI.2 gQ ay aB aF fH atj) ?_
   rintro _ aId _ ⟨Qn, rfl, rfl⟩
   replace h2 := h2.le Qn
   refine vs 2 ?_
   refine er ?_
   refine sc hM (λ R9 hM => ?_) (λ R9 hM => ?_)
   ·refine sg aS ?_
    refine At.s rfl rfl (Ox.bP (vs := _) rfl rfl dc (by simp [fH]) ((aT.box z1).part (j := 0) (n := 5) (eE (by simp [fH]))) rfl (.put rfl) ?_)
    refine At.s rfl rfl (Ox.bp (cs' := _) rfl rfl rfl dc (by simp [fH]) (cr aW (cr (eM λ _ => rfl) aW)) .here (by simp) (eB (by simp [fH])) rfl (.refl _) ?_)
    refine vs 1 ?_
    refine er ?_
    replace hM := Uz _ (af hM).symm
    obtain rfl := af hM
    exact rt Tryz.func99 (.agg rfl dc (by simp [fH]) (aT.box z0) (.tmp rfl .nil)) (so (so (so sr))) (hk _ _ _ ⟨(uz.trans Qn), rfl, fH, rfl⟩)
   refine sp ?_
   refine At.inBlock ?_
   refine At.rg bT ?_
   refine At.s rfl rfl (Ox.bP (vs := _) rfl rfl dc (by simp [fH]) ((aT.box z1).part (j := 0) (n := 5) (eE (by simp [fH]))) rfl (.put rfl) ?_)
   refine vs 1 ?_
   refine At.s rfl rfl (Ox.buildSlice (cells := #[_]) rfl ck rfl (by decide) cS (bf rfl rfl rfl rfl aY) rfl λ aIY _ _ => ⟨_, (.put rfl), ?_⟩)
   obtain ⟨MW, atl, hM⟩ := ao hM
   refine At.cv fU (fX fI.2 [gQ] fH (bC.lit z0 (aG.le (aG.cons (x := gQ) rfl rfl aG.nil) rfl) rfl) atl) ?_
   rintro _ _ _ ⟨rfl, rfl, TZ, rfl⟩
   refine At.s rfl rfl (Ox.bp (cs' := _) rfl rfl rfl dc (by simp [TZ]) (cr aW (cr (eM λ _ => rfl) aW)) (.there (.there .here)) (by simp [fH]) (eB (by simp [TZ, fH])) rfl (.refl _) ?_)
   refine er ?_
   refine At.inBlock ?_
   refine At.rg aQ ?_
   refine vs 2 ?_
   refine er ?_
   exact At.drop (so sr) (ahp _ (af hM).symm _ _ _ ⟨(uz.trans Qn), TZ, rfl, aA.sub ⟨rfl, rfl, rfl, rfl, rfl, rfl, trivial⟩⟩)
  exact At.exit rfl (At.drop (sk (sk (so sr))) (adZ _ (af hM).symm _ _ _ ⟨uz, fH, rfl, aA.sub ⟨rfl, rfl, trivial⟩⟩))
 rintro tM aC3 aC0 aD1 ⟨akP, CF, rfl, aew⟩ hM
 refine At.sub aew ?_
 refine sg aS ?_
 refine At.s rfl rfl (Ox.bP (vs := _) rfl rfl dc (by simp [CF]) ((aT.box z1).part (j := 0) (n := 5) (eE (by simp [CF]))) rfl (.put rfl) ?_)
 refine At.s rfl rfl (Ox.bp (cs' := _) rfl rfl rfl dc (by simp [CF]) (cr aW (cr (eM λ _ => rfl) aW)) .here (by simp) (eB (by simp [CF])) rfl (.refl _) ?_)
 refine vs 1 ?_
 refine er ?_
 obtain rfl := af hM
 exact rt Tryz.func99 (.agg rfl dc (by simp [CF]) (aT.box z0) (.tmp rfl .nil)) (so (so sr)) (hk _ _ _ ⟨akP, rfl, CF, rfl⟩)
theorem axA (x0 : aq) {aC aD aH : Value} (ay : aj bm 5 R aC x0.az) (aB : aj CZ 1 R aD x0.Out) (aF : aj bh 2 R aH x0.aO) {r : Int} (hM : AR x0 = some r) : aJ ag 213 #[.agg #[iv x0.aE, iv x0.aa.an, iv x0.aa.ax, aC, aD, aH]] R H (λ v R' H' => aN R R' ∧ H = H' ∧ v = iv r) := by
 unfold AR at hM
 refine aJ.aX Tryz.func213 rfl (n := 15) rfl rfl λ fr cs hk => ?_
 refine sg aQ ?_
 refine bx λ BY => ?_
 refine vs 1 ?_
 refine nx oV ?_
 refine lN [_, _, _, _, _, _] 0 6 ew z0 ?_
 refine At.s rfl rfl (Ox.qj (z := (List.toArray ([] ++ ([false, false, false, false, false].map Value.bool ++ [])))) rfl qg rfl (.put rfl) ?_)
 refine vs 2 ?_
 refine ld 4 bL z0 ?_
 obtain ⟨oO, Am, hM⟩ := ao hM
 refine At.cv pe (pN x0 [false, false, false, false, false] x0.Out ay aB aF rfl aB.rd Am) ?_
 rintro _ aIp _ ⟨ak7, rfl, K5, rfl⟩
 refine vs 3 ?_
 refine At.s rfl rfl (Ox.alloc (cs := (List.toArray ([] ++ ([false, false, false, false, false].map Value.bool ++ [])))) rfl j7 rfl λ zf _ _ => ⟨_, (.put rfl), ?_⟩)
 refine At.s rfl rfl (Ox.bp (cs' := _) rfl rfl rfl dc (by simp [K5]) (cr aW (cr (eM λ _ => rfl) aW)) .here (by simp) (eB (by simp [K5])) rfl (.refl _) ?_)
 refine vs 1 ?_
 refine nx aQ ?_
 refine vs 2 ?_
 refine er ?_
 obtain rfl := af hM
 exact rt Tryz.func213 (.tmp rfl .nil) (so (so sr)) (hk _ _ _ ⟨ak7, rfl, rfl⟩)
theorem axC (x0 : aq) {aC aD aH : Value} (_ : aj bm 5 R aC x0.az) (aB : aj CZ 1 R aD x0.Out) (aF : aj bh 2 R aH x0.aO) {r : Int} (hM : AS x0 = some r) : aJ ag 214 #[.agg #[iv x0.aE, iv x0.aa.an, iv x0.aa.ax, aC, aD, aH]] R H (λ v R' H' => R = R' ∧ H = H' ∧ v = iv r) := by
 unfold AS at hM
 refine aJ.aX Tryz.func214 rfl (n := 33) rfl rfl λ fr cs hk => ?_
 refine sg aQ ?_
 refine bx λ zi => ?_
 refine vs 1 ?_
 refine es ?_
 refine sg bT ?_
 refine vs 2 ?_
 refine ld 5 eu z0 ?_
 refine ls aF Tryz.underlying26 ?_
 refine vs 1 ?_
 refine er ?_
 refine sc hM (λ Gt hM => ?_) (λ Gt hM => ?_)
 ·refine sg aL ?_
  refine vs 1 ?_
  refine er ?_
  obtain rfl := af hM
  exact rt Tryz.func214 (.tmp rfl .nil) (so sr) (hk _ _ _ ⟨rfl, rfl, rfl⟩)
 refine sp ?_
 refine sq ?_
 refine sg bT ?_
 refine vs 2 ?_
 refine ld 5 eu z0 ?_
 refine ls aF Tryz.underlying26 ?_
 refine vs 1 ?_
 refine er ?_
 refine At.block ?_
 refine At.fh hM (λ (xX : Int) R' H' st' => R = R' ∧ H' = (zi, .cells #[iv x0.aE, iv x0.aa.an, iv x0.aa.ax, aC, aD, aH] 102) :: H ∧ aK st' [(1, .pointer (some ⟨zi, 0, none⟩)), (12, aH), (13, iv (x0.aO.length : Int)), (14, iv xX)]) (λ (ayM : Unit) R' H' st' => R = R' ∧ H = H' ∧ aK st' []) 0 rfl ⟨rfl, rfl, aA.sub ⟨rfl, rfl, rfl, rfl, trivial⟩⟩ ?_ ?_
 rotate_right
 ·rintro xX R71 H71 aOX ⟨rfl, rfl, aq1⟩ nQ hM OT ajJ Ly
  refine At.sub aq1 ?_
  refine sg aL ?_
  refine vs 1 ?_
  refine es ?_
  refine sc hM (λ aak hM => ?_) (λ aak hM => ?_)
  ·refine sp ?_
   refine sq ?_
   refine At.block ?_
   refine sg bn ?_
   obtain ⟨yf, asX, hM⟩ := ao hM
   obtain ⟨aJg, aMm, _, rfl, alg, am4⟩ := aF.elem vr asX
   refine At.s rfl rfl (Ox.bq rfl rfl rfl am4 rfl (.put rfl) ?_)
   refine At.s rfl rfl (Ox.bP (vs := [_, _]) rfl rfl mW rfl (alg.any.part (j := 0) (n := 2) rfl) rfl (.put rfl) ?_)
   refine At.s rfl rfl (Ox.alloc (cs := #[iv 0, iv 0]) rfl Vz rfl λ aIV _ _ => ⟨_, (.put rfl), ?_⟩)
   refine At.s rfl rfl (Ox.bp (cs' := #[_, _]) rfl rfl rfl mW rfl (ak rfl (ak rfl aW)) .here rfl rfl rfl (.refl _) ?_)
   refine es ?_
   refine sg eC ?_
   refine vs 1 ?_
   refine ld 0 bg z0 ?_
   refine vs 2 ?_
   refine ld 4 bL z1 ?_
   refine ls aB Tryz.underlying25 ?_
   obtain ⟨rR, Nq, hM⟩ := ao hM
   refine At.cv qk (qP yf.dr 0 (x0.Out.length : Int)  Nq) ?_
   rintro _ _ _ ⟨rfl, rfl, rfl⟩
   refine vs 1 ?_
   refine er ?_
   refine sc hM (λ arM hM => ?_) (λ arM hM => ?_)
   ·refine sg aL ?_
    refine vs 1 ?_
    refine er ?_
    replace hM := Ly _ (af hM).symm
    obtain rfl := af hM
    exact rt Tryz.func214 (.tmp rfl .nil) (so (so sr)) (hk _ _ _ ⟨rfl, rfl, rfl⟩)
   refine sp ?_
   refine sg aQ ?_
   refine vs 1 ?_
   refine ld 1 Ls z0 ?_
   refine er ?_
   refine At.block ?_
   refine sq ?_
   refine sg aQ ?_
   refine vs 2 ?_
   refine er ?_
   refine sc hM (λ Cv hM => ?_) (λ Cv hM => ?_)
   ·refine sp ?_
    refine sc hM (λ RX hM => ?_) (λ RX hM => ?_)
    ·refine sp ?_
     refine At.inBlock ?_
     refine At.inBlock ?_
     refine At.rg aQ ?_
     refine vs 2 ?_
     refine er ?_
     exact At.drop (so sr) (OT _ (af hM).symm _ _ _ ⟨rfl, rfl, aA.sub ⟨rfl, rfl, rfl, rfl, trivial⟩⟩)
    refine sg aL ?_
    refine vs 1 ?_
    refine er ?_
    replace hM := Ly _ (af hM).symm
    obtain rfl := af hM
    exact rt Tryz.func214 (.tmp rfl .nil) (so (so sr)) (hk _ _ _ ⟨rfl, rfl, rfl⟩)
   refine sg aQ ?_
   refine vs 2 ?_
   refine er ?_
   refine sc hM (λ arN hM => ?_) (λ arN hM => ?_)
   ·refine sp ?_
    refine sc hM (λ aex hM => ?_) (λ aex hM => ?_)
    ·refine sp ?_
     refine At.inBlock ?_
     refine At.inBlock ?_
     refine At.rg aQ ?_
     refine vs 2 ?_
     refine er ?_
     exact At.drop (so sr) (OT _ (af hM).symm _ _ _ ⟨rfl, rfl, aA.sub ⟨rfl, rfl, rfl, rfl, trivial⟩⟩)
    refine sg aL ?_
    refine vs 1 ?_
    refine er ?_
    replace hM := Ly _ (af hM).symm
    obtain rfl := af hM
    exact rt Tryz.func214 (.tmp rfl .nil) (so (so sr)) (hk _ _ _ ⟨rfl, rfl, rfl⟩)
   refine At.rg aQ ?_
   refine vs 2 ?_
   refine er ?_
   refine sc hM (λ arO hM => ?_) (λ arO hM => ?_)
   ·refine sp ?_
    refine At.inBlock ?_
    refine At.inBlock ?_
    refine At.rg aQ ?_
    refine vs 2 ?_
    refine er ?_
    exact At.drop (so sr) (OT _ (af hM).symm _ _ _ ⟨rfl, rfl, aA.sub ⟨rfl, rfl, rfl, rfl, trivial⟩⟩)
   refine sg aL ?_
   refine vs 1 ?_
   refine er ?_
   replace hM := Ly _ (af hM).symm
   obtain rfl := af hM
   exact rt Tryz.func214 (.tmp rfl .nil) (so (so sr)) (hk _ _ _ ⟨rfl, rfl, rfl⟩)
  exact At.exit rfl (At.drop (so sr) (ajJ _ (af hM).symm _ _ _ ⟨rfl, rfl, aA.sub trivial⟩))
 rintro ayM aG3 aFd aOY ⟨rfl, rfl, aq2⟩ hM
 refine At.sub aq2 ?_
 refine sg aL ?_
 refine vs 1 ?_
 refine er ?_
 obtain rfl := af hM
 exact rt Tryz.func214 (.tmp rfl .nil) sr (hk _ _ _ ⟨rfl, rfl, rfl⟩)
theorem ve (x0 : aq) {aC aD aH : Value} (hG : fM R) (ay : aj bm 5 R aC x0.az) (aB : aj CZ 1 R aD x0.Out) (aF : aj bh 2 R aH x0.aO) {r : Int} (hM : lA x0 = some r) : aJ ag 83 #[.agg #[iv x0.aE, iv x0.aa.an, iv x0.aa.ax, aC, aD, aH]] R H (λ v R' H' => aN R R' ∧ H = H' ∧ v = iv r) := by
 unfold lA at hM
 refine aJ.aX Tryz.func83 rfl (n := 18) rfl rfl λ fr cs hk => ?_
 refine sg aQ ?_
 refine bx λ e6 => ?_
 refine vs 1 ?_
 refine es ?_
 refine sg aQ ?_
 refine At.s rfl rfl (Ox.bP (vs := [_, _, _, _]) rfl rfl ahr rfl (hG.any.part (j := 0) (n := 4) rfl) rfl (.put rfl) ?_)
 refine vs 1 ?_
 refine er ?_
 refine At.block ?_
 refine At.enterLoop ?_
 refine sg aL ?_
 refine vs 1 ?_
 refine es ?_
 refine At.cond_true rfl ?_
 refine sp ?_
 refine sq ?_
 refine At.block ?_
 refine sg aQ ?_
 refine At.s rfl rfl (Ox.KY rfl rfl rfl Jt Lq.1 (by decide) rfl rfl (.put rfl) ?_)
 refine vs 1 ?_
 refine nx bT ?_
 refine vs 1 ?_
 refine lN [_, _, _, _, _, _] 0 6 aU z0 ?_
 refine At.s rfl rfl (Ox.build (cells := #[_, _, _, _, _, _]) rfl pV rfl (bf rfl rfl rfl rfl aY) rfl (.put rfl) ?_)
 obtain ⟨nO, uT, hM⟩ := ao hM
 refine At.cv aiR (axw (⟨x0.aE, ⟨x0.aa.an, x0.aa.ax⟩, x0.az, x0.Out, x0.aO⟩ : aq) ay aB aF uT) ?_
 rintro _ _ _ ⟨rfl, rfl, rfl⟩
 refine vs 1 ?_
 refine nx aQ ?_
 refine vs 2 ?_
 refine er ?_
 refine sc hM (λ Ac hM => ?_) (λ Ac hM => ?_)
 ·refine sg aQ ?_
  refine vs 2 ?_
  refine er ?_
  obtain rfl := af hM
  exact rt Tryz.func83 (.tmp rfl .nil) (so sr) (hk _ _ _ ⟨(rr), rfl, rfl⟩)
 refine sp ?_
 refine At.inBlock ?_
 refine At.rg aQ ?_
 refine vs 2 ?_
 refine er ?_
 refine At.inLoop ?_
 refine sg aL ?_
 refine vs 1 ?_
 refine es ?_
 refine At.cond_true rfl ?_
 refine sp ?_
 refine sq ?_
 refine At.block ?_
 refine sg aQ ?_
 refine At.s rfl rfl (Ox.KY rfl rfl rfl Jt Lq.1 (by decide) rfl rfl (.put rfl) ?_)
 refine vs 1 ?_
 refine nx bT ?_
 refine vs 1 ?_
 refine lN [_, _, _, _, _, _] 0 6 aU z0 ?_
 refine At.s rfl rfl (Ox.build (cells := #[_, _, _, _, _, _]) rfl pV rfl (bf rfl rfl rfl rfl aY) rfl (.put rfl) ?_)
 obtain ⟨eI, uU, hM⟩ := ao hM
 refine At.cv aiS (axy (⟨x0.aE, ⟨x0.aa.an, x0.aa.ax⟩, x0.az, x0.Out, x0.aO⟩ : aq) ay aB aF uU) ?_
 rintro _ Jm _ ⟨iA, rfl, rfl⟩
 replace ay := ay.mono iA
 replace aB := aB.mono iA
 replace aF := aF.mono iA
 refine vs 1 ?_
 refine nx aQ ?_
 refine vs 2 ?_
 refine er ?_
 refine sc hM (λ qB hM => ?_) (λ qB hM => ?_)
 ·refine sg aQ ?_
  refine vs 2 ?_
  refine er ?_
  obtain rfl := af hM
  exact rt Tryz.func83 (.tmp rfl .nil) (so sr) (hk _ _ _ ⟨iA, rfl, rfl⟩)
 refine sp ?_
 refine At.inBlock ?_
 refine At.rg aQ ?_
 refine vs 2 ?_
 refine er ?_
 refine At.inLoop ?_
 refine sg aL ?_
 refine vs 1 ?_
 refine es ?_
 refine At.cond_true rfl ?_
 refine sp ?_
 refine sq ?_
 refine At.block ?_
 refine sg aQ ?_
 refine At.s rfl rfl (Ox.KY rfl rfl rfl Jt Lq.1 (by decide) rfl rfl (.put rfl) ?_)
 refine vs 1 ?_
 refine nx bT ?_
 refine vs 1 ?_
 refine lN [_, _, _, _, _, _] 0 6 aU z0 ?_
 refine At.s rfl rfl (Ox.build (cells := #[_, _, _, _, _, _]) rfl pV rfl (bf rfl rfl rfl rfl aY) rfl (.put rfl) ?_)
 obtain ⟨jA, uV, hM⟩ := ao hM
 refine At.cv aiT (axA (⟨x0.aE, ⟨x0.aa.an, x0.aa.ax⟩, x0.az, x0.Out, x0.aO⟩ : aq) ay aB aF uV) ?_
 rintro _ Jn _ ⟨jj, rfl, rfl⟩
 replace ay := ay.mono jj
 replace aB := aB.mono jj
 replace aF := aF.mono jj
 refine vs 1 ?_
 refine nx aQ ?_
 refine vs 2 ?_
 refine er ?_
 refine sc hM (λ ass hM => ?_) (λ ass hM => ?_)
 ·refine sg aQ ?_
  refine vs 2 ?_
  refine er ?_
  obtain rfl := af hM
  exact rt Tryz.func83 (.tmp rfl .nil) (so sr) (hk _ _ _ ⟨(iA.trans jj), rfl, rfl⟩)
 refine sp ?_
 refine At.inBlock ?_
 refine At.rg aQ ?_
 refine vs 2 ?_
 refine er ?_
 refine At.inLoop ?_
 refine sg aL ?_
 refine vs 1 ?_
 refine es ?_
 refine At.cond_true rfl ?_
 refine sp ?_
 refine sq ?_
 refine At.block ?_
 refine sg aQ ?_
 refine At.s rfl rfl (Ox.KY rfl rfl rfl Jt Lq.1 (by decide) rfl rfl (.put rfl) ?_)
 refine vs 1 ?_
 refine nx bT ?_
 refine vs 1 ?_
 refine lN [_, _, _, _, _, _] 0 6 aU z0 ?_
 refine At.s rfl rfl (Ox.build (cells := #[_, _, _, _, _, _]) rfl pV rfl (bf rfl rfl rfl rfl aY) rfl (.put rfl) ?_)
 obtain ⟨fc, oC, hM⟩ := ao hM
 refine At.cv aiU (axC (⟨x0.aE, ⟨x0.aa.an, x0.aa.ax⟩, x0.az, x0.Out, x0.aO⟩ : aq) ay aB aF oC) ?_
 rintro _ _ _ ⟨rfl, rfl, rfl⟩
 refine vs 1 ?_
 refine nx aQ ?_
 refine vs 2 ?_
 refine er ?_
 refine sc hM (λ Gk hM => ?_) (λ Gk hM => ?_)
 ·refine sg aQ ?_
  refine vs 2 ?_
  refine er ?_
  obtain rfl := af hM
  exact rt Tryz.func83 (.tmp rfl .nil) (so sr) (hk _ _ _ ⟨(iA.trans jj), rfl, rfl⟩)
 refine sp ?_
 refine At.inBlock ?_
 refine At.rg aQ ?_
 refine vs 2 ?_
 refine er ?_
 refine At.inLoop ?_
 refine sg aL ?_
 refine vs 1 ?_
 refine es ?_
 refine At.cond_false rfl ?_
 refine At.exit rfl ?_
 refine sg aL ?_
 refine vs 1 ?_
 refine er ?_
 obtain rfl := af hM
 exact rt Tryz.func83 (.tmp rfl .nil) (so sr) (hk _ _ _ ⟨(iA.trans jj), rfl, rfl⟩)
theorem T5 (x0 : aq) (x1 : Int) {aC aD aH : Value} (_ : aj bm 5 R aC x0.az) (_ : aj CZ 1 R aD x0.Out) (_ : aj bh 2 R aH x0.aO) {r : Bool} (hM : vQ x0 x1 = some r) : aJ ag 103 #[.agg #[iv x0.aE, iv x0.aa.an, iv x0.aa.ax, aC, aD, aH], iv x1] R H (λ v R' H' => R = R' ∧ H = H' ∧ v = .bool r) := by
 unfold vQ at hM
 refine aJ.aX Tryz.func103 rfl (n := 13) rfl rfl λ fr cs hk => ?_
 refine sg aQ ?_
 refine bx λ m7 => ?_
 refine vs 1 ?_
 refine nx gd ?_
 refine vs 2 ?_
 refine At.s rfl rfl (Ox.Lp rfl rfl rfl (.put rfl) ?_)
 refine At.s rfl rfl (Ox.max (a := x1) (l := [i64 (0 - x1)]) rfl rfl rfl (.put rfl) ?_)
 refine vs 2 ?_
 refine ld 0 bg z0 ?_
 refine vs 2 ?_
 refine er ?_
 obtain rfl := af hM
 exact rt Tryz.func103 (.tmp rfl .nil) (so sr) (hk _ _ _ ⟨rfl, rfl, rfl⟩)
theorem axm (x0 : (List bW)) (x1 : (bW → Option Bool)) {v0 v1 : Value} (h0 : bC bh 2 R H v0 x0) (h1 : n4 ag R H (jR bh) VB v1 x1) {r : Int} (hM : D3 x0 x1 = some r) : aJ ag 174 #[v0, v1] R H (λ v R' H' => aN R R' ∧ H = H' ∧ v = iv r) := by
 unfold D3 at hM
 refine aJ.aX Tryz.func174 rfl (n := 19) rfl rfl λ fr cs hk => ?_
 refine sg aL ?_
 refine vs 1 ?_
 refine es ?_
 refine sg aS ?_
 refine vs 1 ?_
 refine lr h0 Tryz.underlying26 ?_
 refine vs 1 ?_
 refine er ?_
 refine At.block ?_
 refine At.fh hM (λ (dV : Int) R' H' st' => aN R R' ∧ H = H' ∧ aK st' [(0, v0), (1, v1), (7, iv (x0.length : Int)), (8, iv dV)]) (λ (HG : Unit) R' H' st' => aN R R' ∧ H = H' ∧ aK st' []) 0 rfl ⟨rr, rfl, aA.sub ⟨rfl, rfl, rfl, rfl, trivial⟩⟩ ?_ ?_
 rotate_right
 ·rintro dV WZ WC acy ⟨kz, rfl, F1⟩ cU hM ET E9 HD
  refine At.sub F1 ?_
  replace h0 := h0.le kz
  replace h1 := h1.up kz pp
  refine sg aL ?_
  refine vs 1 ?_
  refine es ?_
  refine sc hM (λ ot hM => ?_) (λ ot hM => ?_)
  ·refine sp ?_
   refine sq ?_
   refine At.block ?_
   refine sg aQ ?_
   refine vs 2 ?_
   refine nx dy ?_
   refine vs 3 ?_
   obtain ⟨fA, kG, hM⟩ := ao hM
   obtain ⟨dX, mG, hM⟩ := ao hM
   obtain ⟨X3, ab0, _, rfl, qu, FM⟩ := h0.elem vr kG
   refine At.s rfl rfl (Ox.bq rfl rfl rfl FM rfl (.put rfl) ?_)
   refine At.s rfl rfl (Ox.bP (vs := [_, _]) rfl rfl mW rfl ((qu.sub pp).part (j := 0) (n := 2) rfl) rfl (.put rfl) ?_)
   refine At.step rfl rfl rfl (Ox.B2 h1 rfl rfl rfl ⟨_, rfl, rfl⟩ mG rfl pp ?_)
   rintro _ wF eA rfl
   replace h0 := h0.le eA
   replace h1 := h1.up eA pp
   replace qu := qu.le eA
   refine ⟨_, (.put rfl), ?_⟩
   refine er ?_
   refine sc hM (λ Gl hM => ?_) (λ Gl hM => ?_)
   ·refine sg aQ ?_
    refine vs 2 ?_
    refine er ?_
    replace hM := HD _ (af hM).symm
    obtain rfl := af hM
    exact rt Tryz.func174 (.tmp rfl .nil) sr (hk _ _ _ ⟨(kz.trans eA), rfl, rfl⟩)
   refine sp ?_
   refine At.inBlock ?_
   refine At.rg aQ ?_
   refine vs 2 ?_
   refine er ?_
   exact ET _ (af hM).symm _ _ _ ⟨(kz.trans eA), rfl, aA.sub ⟨rfl, rfl, rfl, rfl, trivial⟩⟩
  exact At.exit rfl (E9 _ (af hM).symm _ _ _ ⟨kz, rfl, aA.sub trivial⟩)
 rintro HG W0 WD acz ⟨Fo, rfl, F2⟩ hM
 refine At.sub F2 ?_
 refine sg aL ?_
 refine vs 1 ?_
 refine er ?_
 obtain rfl := af hM
 exact rt Tryz.func174 (.tmp rfl .nil) sr (hk _ _ _ ⟨Fo, rfl, rfl⟩)
theorem aw9 (x0 : (List bW)) (x1 : (bW → Option Bool)) {v0 v1 : Value} (h0 : bC bh 2 R H v0 x0) (h1 : n4 ag R H (jR bh) VB v1 x1) {r : Bool} (hM : BC x0 x1 = some r) : aJ ag 162 #[v0, v1] R H (λ v R' H' => aN R R' ∧ H = H' ∧ v = .bool r) := by
 unfold BC at hM
 refine aJ.aX Tryz.func162 rfl (n := 9) rfl rfl λ fr cs hk => ?_
 refine sg aL ?_
 refine vs 1 ?_
 refine nx bT ?_
 refine vs 2 ?_
 obtain ⟨cA, ff, hM⟩ := ao hM
 refine At.cv aiL (axm x0 x1 (h0.sub pp) h1 ff) ?_
 rintro _ BT _ ⟨fV, rfl, rfl⟩
 replace h0 := h0.le fV
 replace h1 := h1.up fV pp
 refine vs 2 ?_
 refine er ?_
 obtain rfl := af hM
 exact rt Tryz.func162 (.tmp rfl .nil) sr (hk _ _ _ ⟨fV, rfl, rfl⟩)
theorem axb (x0 : Int)  {r : Int} (hM : BD x0 = some r) : aJ ag 164 #[iv x0] R H (λ v R' H' => R = R' ∧ H = H' ∧ v = iv r) := by
 unfold BD at hM
 refine aJ.aX Tryz.func164 rfl (n := 9) rfl rfl λ fr cs hk => ?_
 refine sg aL ?_
 refine vs 1 ?_
 refine es ?_
 refine At.block ?_
 refine sg aS ?_
 refine vs 3 ?_
 refine er ?_
 refine sc hM (λ Gd hM => ?_) (λ Gd hM => ?_)
 ·refine sg aL ?_
  refine vs 1 ?_
  refine er ?_
  obtain rfl := af hM
  exact rt Tryz.func164 (.tmp rfl .nil) sr (hk _ _ _ ⟨rfl, rfl, rfl⟩)
 refine sg aS ?_
 refine vs 3 ?_
 refine er ?_
 refine sc hM (λ mB hM => ?_) (λ mB hM => ?_)
 ·refine sg aL ?_
  refine vs 1 ?_
  refine er ?_
  obtain rfl := af hM
  exact rt Tryz.func164 (.tmp rfl .nil) sr (hk _ _ _ ⟨rfl, rfl, rfl⟩)
 refine sp ?_
 refine At.inBlock ?_
 refine sg aL ?_
 refine vs 1 ?_
 refine er ?_
 obtain rfl := af hM
 exact rt Tryz.func164 (.tmp rfl .nil) sr (hk _ _ _ ⟨rfl, rfl, rfl⟩)
theorem axa (x0 : bW) (x1 : Int) (x2 : Int) {b1 b2 : Nat} (cN : aT R H b1 0 [iv x1]) (bz : aT R H b2 0 [iv x2]) {r : Bool} (hM : yz x0 x1 x2 = some r) : aJ ag 163 #[.agg #[iv x0.dr, iv x0.dQ], .pointer (some ⟨b1, 0, none⟩), .pointer (some ⟨b2, 0, none⟩)] R H (λ v R' H' => R = R' ∧ H = H' ∧ v = .bool r) := by
 unfold yz at hM
 refine aJ.aX Tryz.func163 rfl (n := 16) rfl rfl λ fr cs hk => ?_
 refine sg aQ ?_
 refine bx λ BY => ?_
 refine vs 1 ?_
 refine es ?_
 refine At.dw oV mixed ?_
 refine Any.vs 1 [0] rfl ?_
 refine tl 1 0 bg z0 ?_
 refine Any.tk 2 rfl pp (λ R' H' hR hS => Ox.bV rfl rfl bg (((cN.le hR).sub (λ p h => hS p ((su (so sr)) p h))).one (j := 0) rfl) rfl (.one rfl) ⟨rfl, rfl, rfl⟩) ?_
 refine Any.vs 2 [3, 4] rfl ?_
 refine bA hM (λ jH hM => ?_) (λ jH hM => ?_)
 ·refine Any.known (t := 9) rfl jH ?_
  refine Any.vs 1 [5] rfl ?_
  refine tl 6 1 Ls z0 ?_
  refine Any.tk 7 rfl pp (λ R' H' hR hS => Ox.bV rfl rfl bg (((bz.le hR).sub (λ p h => hS p ((su (so sr)) p h))).one (j := 0) rfl) rfl (.one rfl) ⟨rfl, rfl, rfl⟩) ?_
  obtain ⟨fQ, mD, hM⟩ := ao hM
  refine Any.cv 8 aiC (axb x2  mD) ?_
  rintro _ _ _ ⟨rfl, rfl, rfl⟩
  refine kp ?_
  refine Any.vs 3 [9, 10, 11] rfl ?_
  refine Any.done ?_
  obtain rfl := af hM
  exact rt Tryz.func163 (.tmp rfl .nil) (so sr) (hk _ _ _ ⟨rfl, rfl, rfl⟩)
 refine Any.known (t := 9) rfl jH ?_
 refine Any.vs 7 [5, 6, 7, 8, 9, 10, 11] rfl ?_
 refine Any.done ?_
 obtain rfl := af hM
 exact rt Tryz.func163 (.tmp rfl .nil) (so sr) (hk _ _ _ ⟨rfl, rfl, rfl⟩)
theorem abz (x0 : aq) (x1 : bu) {aC aD aH : Value} (ay : aj bm 5 R aC x0.az) (aB : aj CZ 1 R aD x0.Out) (aF : aj bh 2 R aH x0.aO) (Ax : x1.weights.length = 5) {r : Bool} (hM : yw x0 x1 = some r) : aJ ag 143 #[.agg #[iv x0.aE, iv x0.aa.an, iv x0.aa.ax, aC, aD, aH], .agg (List.toArray ([iv x1.fB] ++ (x1.weights.map (Value.int .i64) ++ [])))] R H (λ v R' H' => aN R R' ∧ H = H' ∧ v = .bool r) := by
 unfold yw at hM
 refine aJ.aX Tryz.func143 rfl (n := 36) rfl rfl λ fr cs hk => ?_
 refine sg aS ?_
 refine bx λ Jy => ?_
 refine bx λ oa => ?_
 refine vs 1 ?_
 refine es ?_
 refine sg dy ?_
 refine vs 2 ?_
 refine ld 4 bL z1 ?_
 refine ls aB Tryz.underlying25 ?_
 refine vs 2 ?_
 refine er ?_
 refine At.block ?_
 refine At.fh hM (λ (q9 : Int) R' H' st' => aN R R' ∧ H' = (oa, .cells (List.toArray ([iv x1.fB] ++ (x1.weights.map (Value.int .i64) ++ []))) 125) :: (Jy, .cells #[iv x0.aE, iv x0.aa.an, iv x0.aa.ax, aC, aD, aH] 102) :: H ∧ aK st' [(2, .pointer (some ⟨Jy, 0, none⟩)), (3, .pointer (some ⟨oa, 0, none⟩)), (11, iv (i64 ((x0.Out.length : Int) + 1))), (12, iv q9)]) (λ (ayL : Unit) R' H' st' => aN R R' ∧ H = H' ∧ aK st' []) 0 rfl ⟨rr, rfl, aA.sub ⟨rfl, rfl, rfl, rfl, trivial⟩⟩ ?_ ?_
 rotate_right
 ·rintro q9 R64 H64 aOR ⟨zz, rfl, aqV⟩ rG hM ahf ajH abV
  refine At.sub aqV ?_
  replace ay := ay.mono zz
  replace aB := aB.mono zz
  replace aF := aF.mono zz
  refine sg aL ?_
  refine vs 1 ?_
  refine es ?_
  refine sc hM (λ xh hM => ?_) (λ xh hM => ?_)
  ·refine sp ?_
   refine sq ?_
   refine At.block ?_
   refine sg aS ?_
   refine vs 1 ?_
   refine At.s rfl rfl (Ox.alloc (cs := #[iv 0]) rfl vN rfl λ XZ _ _ => ⟨_, (.put rfl), ?_⟩)
   refine At.s rfl rfl (Ox.cM (cs' := #[_]) rfl rfl rfl bg rfl .here rfl rfl rfl (.refl _) ?_)
   refine es ?_
   obtain ⟨oS, GV, hM⟩ := ao hM
   obtain ⟨kV, Bw, hM⟩ := ao hM
   obtain ⟨iL, CC, hM⟩ := ao hM
   refine At.cut (λ R' H' st' => R64 = R' ∧ ∃ (nc : Nat), H' = (nc, .cells #[iv iL] 3) :: (XZ, .cells #[iv q9] 3) :: (oa, .cells (List.toArray ([iv x1.fB] ++ (x1.weights.map (Value.int .i64) ++ []))) 125) :: (Jy, .cells #[iv x0.aE, iv x0.aa.an, iv x0.aa.ax, aC, aD, aH] 102) :: H ∧ aK st' [(2, .pointer (some ⟨Jy, 0, none⟩)), (3, .pointer (some ⟨oa, 0, none⟩)), (5, .pointer (some ⟨XZ, 0, none⟩)), (6, .pointer (some ⟨nc, 0, none⟩)), (11, iv (i64 ((x0.Out.length : Int) + 1))), (12, iv q9)]) ?_ ?_
   ·rintro aHx aFJ aPA ⟨rfl, nc, rfl, arH⟩
    refine At.sub arH ?_
    refine sg mM ?_
    refine lN [_, _, _, _, _, _] 0 6 ew z3 ?_
    refine ld 0 bg z0 ?_
    obtain ⟨vK, GC, hM⟩ := ao hM
    refine At.cv Pq (T5 x0 iL ay aB aF GC) ?_
    rintro _ _ _ ⟨rfl, rfl, rfl⟩
    refine vs 1 ?_
    refine bA hM (λ z9 hM => ?_) (λ z9 hM => ?_)
    ·refine At.kn 28 z9 ?_
     refine vs 6 ?_
     refine er ?_
     refine At.cond_true rfl ?_
     refine sg aL ?_
     refine vs 1 ?_
     refine er ?_
     replace hM := abV _ (af hM).symm
     obtain rfl := af hM
     exact rt Tryz.func143 (.tmp rfl .nil) (so (so (so (so sr)))) (hk _ _ _ ⟨zz, rfl, rfl⟩)
    refine At.kn 28 z9 ?_
    refine vs 2 ?_
    refine ld 5 eu z3 ?_
    refine At.s rfl rfl (Ox.makeFunc (vs := #[]) (us := #[_, _]) rfl rfl rfl rfl (.put rfl) ?_)
    obtain ⟨kM, S2, hM⟩ := ao hM
    refine At.cv aiA (aw9 x0.aO (λ y => yz y q9 iL) aF.rd ⟨163, #[], #[_, _], rfl, aiB, λ R' H' hR hH y r va hA hr => by obtain ⟨_, rfl, rfl⟩ := hA; exact (axa y q9 iL (aT.box (hH _ z1)) (aT.box (hH _ z0)) hr).mono λ _ _ _ ⟨h1, h2, h3⟩ => ⟨h1 ▸ rr, h2.symm, h3⟩⟩ S2) ?_
    rintro _ aH8 _ ⟨ZH, rfl, rfl⟩
    refine vs 1 ?_
    refine er ?_
    refine sc hM (λ F6 hM => ?_) (λ F6 hM => ?_)
    ·refine sg aL ?_
     refine vs 1 ?_
     refine er ?_
     replace hM := abV _ (af hM).symm
     obtain rfl := af hM
     exact rt Tryz.func143 (.tmp rfl .nil) (so (so (so (so sr)))) (hk _ _ _ ⟨(zz.trans ZH), rfl, rfl⟩)
    refine sp ?_
    refine At.inBlock ?_
    refine At.rg aQ ?_
    refine vs 2 ?_
    refine er ?_
    exact At.drop (so (so sr)) (ahf _ (af hM).symm _ _ _ ⟨(zz.trans ZH), rfl, aA.sub ⟨rfl, rfl, rfl, rfl, trivial⟩⟩)
   intro QC
   refine At.dw oV mixed ?_
   refine tN 0 [_, _, _, _, _, _] 0 6 ew z2 ?_
   refine Any.tk 1 rfl pp (λ R' H' hR hS => Ox.bP (vs := _) rfl rfl eP (by simp [Ax]) ((aT.box (hS _ z1)).part (j := 0) (n := 6) (eE (by simp [Ax]))) rfl (.one rfl) ⟨rfl, rfl, rfl⟩) ?_
   refine Any.tk 2 rfl pp (λ R' H' hR hS => Ox.qj (z := (List.toArray ([] ++ ([false, false, false, false, false].map Value.bool ++ [])))) rfl qg rfl (.one rfl) ⟨rfl, rfl, rfl⟩) ?_
   refine Any.vs 2 [3, 4] rfl ?_
   refine tl 5 4 bL z2 ?_
   refine tl 6 0 bg z0 ?_
   obtain ⟨aQ4, aa7, aoq⟩ := aB.cut cL GV
   refine Any.tk 7 rfl pp (λ R' H' hR hS => Ox.wM rfl rfl rfl rfl aoq rfl (.one rfl) ⟨rfl, rfl, rfl⟩) ?_
   refine tw 8 10 ?_ ?_
   ·refine  (Ox.dO rfl rfl rfl rfl fU rfl rfl ((fX [false, false, false, false, false] oS rfl aa7.rd Bw).mono ?_))
    rintro _ _ _ ⟨rfl, rfl, K7, rfl⟩
    refine ⟨_, (.put rfl), ⟨rr, ka, ?_⟩⟩
    refine tw 9 10 ?_ ?_
    ·refine  (Ox.dO rfl rfl rfl rfl wO rfl rfl ((xG x0 x1 kV ay aB aF Ax K7 CC).mono ?_))
     rintro _ _ _ ⟨rfl, rfl, rfl⟩
     refine ⟨_, (.put rfl), ⟨rr, ka, ?_⟩⟩
     refine Any.on 10 rfl rfl (aR.to (Ox.alloc (cs := #[iv 0]) rfl vN rfl λ nc _ _ => ⟨_, (.put rfl), ⟨rr, (ku (so sr)), ?_⟩⟩))
     refine Any.on 11 rfl rfl (aR.to (Ox.cM (cs' := #[_]) rfl rfl rfl bg rfl .here rfl rfl rfl (.refl _) ⟨rr, (ku (so sr)), ?_⟩))
     exact Any.done (QC _ _ _ ⟨rfl, nc, rfl, aA.sub ⟨rfl, rfl, rfl, rfl, rfl, rfl, trivial⟩⟩)
    refine  (aR.to (Ox.alloc (cs := #[iv 0]) rfl vN rfl λ nc _ _ => ⟨_, (.put rfl), ⟨rr, (ku (so sr)), ?_⟩⟩))
    refine Any.cv 9 wO (xG x0 x1 kV ay aB aF Ax K7 CC) ?_
    rintro _ _ _ ⟨rfl, rfl, rfl⟩
    refine ⟨rr, (ku (so sr)), ?_⟩
    refine Any.on 11 rfl rfl (aR.to (Ox.cM (cs' := #[_]) rfl rfl rfl bg rfl .here rfl rfl rfl (.refl _) ⟨rr, (ku (so sr)), ?_⟩))
    exact Any.done (QC _ _ _ ⟨rfl, nc, rfl, aA.sub ⟨rfl, rfl, rfl, rfl, rfl, rfl, trivial⟩⟩)
   refine  (aR.to (Ox.alloc (cs := #[iv 0]) rfl vN rfl λ nc _ _ => ⟨_, (.put rfl), ⟨rr, (ku (so sr)), ?_⟩⟩))
   refine Any.cv 8 fU (fX [false, false, false, false, false] oS rfl aa7.rd Bw) ?_
   rintro _ _ _ ⟨rfl, rfl, K7, rfl⟩
   refine ⟨rr, (ku (so sr)), ?_⟩
   refine Any.cv 9 wO (xG x0 x1 kV ay aB aF Ax K7 CC) ?_
   rintro _ _ _ ⟨rfl, rfl, rfl⟩
   refine ⟨rr, (ku (so sr)), ?_⟩
   refine Any.on 11 rfl rfl (aR.to (Ox.cM (cs' := #[_]) rfl rfl rfl bg rfl .here rfl rfl rfl (.refl _) ⟨rr, (ku (so sr)), ?_⟩))
   exact Any.done (QC _ _ _ ⟨rfl, nc, rfl, aA.sub ⟨rfl, rfl, rfl, rfl, rfl, rfl, trivial⟩⟩)
  exact At.exit rfl (At.drop (so (so sr)) (ajH _ (af hM).symm _ _ _ ⟨zz, rfl, aA.sub trivial⟩))
 rintro ayL aG1 aFa aOS ⟨akJ, rfl, aqW⟩ hM
 refine At.sub aqW ?_
 refine sg aL ?_
 refine vs 1 ?_
 refine er ?_
 obtain rfl := af hM
 exact rt Tryz.func143 (.tmp rfl .nil) sr (hk _ _ _ ⟨akJ, rfl, rfl⟩)
theorem aw5 {S : Type} {ys : bu → S → Option (S × Bool)} {vY : Value} (k : Nat) : ∀ {Inv : S → aI → au → Prop} {R : aI} {Hy : au} (_ : iq ag R (jR fL) vY ys Inv) (x0 : bu) (x1 : Int) (x2 : aq) {s0 : S} (_ : Inv s0 R Hy) {vu vv vw : Value} {b2 b3 b4 : Nat} (_ : x0.weights.length = 5) (_ : aT R [] b2 0 [iv x2.aE, iv x2.aa.an, iv x2.aa.ax, vu, vv, vw]) (_ : aj bm 5 R vu x2.az) (_ : aj CZ 1 R vv x2.Out) (_ : aj bh 2 R vw x2.aO) (_ : aT R [] b3 0 [vY]) (_ : aT R [] b4 0 [.func (.func 157) #[] #[.pointer (some ⟨b2, 0, none⟩), .pointer (some ⟨b3, 0, none⟩), .pointer (some ⟨b4, 0, none⟩)]]) {r : (S × Bool)} (_ : sY ys k x0 x1 x2 s0 = some r), aJ ag 157 #[.agg (List.toArray ([iv x0.fB] ++ (x0.weights.map (Value.int .i64) ++ []))), iv x1, .pointer (some ⟨b2, 0, none⟩), .pointer (some ⟨b3, 0, none⟩), .pointer (some ⟨b4, 0, none⟩)] R Hy (λ v R' H' => aN R R' ∧ Inv r.1 R' H' ∧ v = .bool r.2) := by
 induction k with
 | zero => intro Inv R Hy hY x0 x1 x2 s0 hI vu vv vw b2 b3 b4 gx bz bX b8 b9 bK cg r hM; exact absurd hM (by simp [sY])
 | succ k ih =>
  intro Inv R Hy hY x0 x1 x2 s0 hI vu vv vw b2 b3 b4 gx bz bX b8 b9 bK cg r hM
  rw [sY] at hM
  refine aJ.aX Tryz.func157 rfl (n := 50) rfl rfl λ fr cs hk => ?_
  refine sg aQ ?_
  refine bx λ cn => ?_
  refine vs 1 ?_
  refine es ?_
  refine sg dy ?_
  refine vs 3 ?_
  refine At.ld cK (bz.any.one (j := 3) rfl) ?_
  refine ls bX Tryz.underlying24 ?_
  refine vs 1 ?_
  refine er ?_
  refine sc hM (λ kE hM => ?_) (λ kE hM => ?_)
  ·refine sq ?_
   refine At.gR hM (λ (lC : (S × Bool)) R' H' st' => aN R R' ∧ ∃ y4, Inv lC.1 R' y4 ∧ y4 = H' ∧ aK st' [(7, .bool lC.2)])  ?_ ?_
   rotate_right
   ·intro jO hM J4
    obtain ⟨eH, mE, hM⟩ := ao hM
    refine bA hM (λ Gi hM => ?_) (λ Gi hM => ?_)
    ·refine At.rg mM ?_
     refine At.s rfl rfl (Ox.bP (vs := [_, _, _, _, _, _]) rfl rfl ew rfl (bz.any.part (j := 0) (n := 6) rfl) rfl (.put rfl) ?_)
     refine At.s rfl rfl (Ox.bP (vs := _) rfl rfl eP (by simp [gx]) ((aT.box z0).part (j := 0) (n := 6) (eE (by simp [gx]))) rfl (.put rfl) ?_)
     refine At.cv YO (abz x2 x0 bX b8 b9 gx mE) ?_
     rintro _ y8 _ ⟨cV, rfl, rfl⟩
     replace bX := bX.mono cV
     replace b8 := b8.mono cV
     replace b9 := b9.mono cV
     replace hI := hY.mono (rr) cV hI
     replace bz := bz.up (H := []) cV
     replace bK := bK.up (H := []) cV
     replace hY := hY.up cV
     refine vs 2 ?_
     refine At.kn 20 Gi ?_
     refine vs 5 ?_
     refine er ?_
     exact At.drop (so sr) (J4 _ (af hM).symm _ _ _ ⟨cV, Hy, hI, rfl, aA.sub ⟨rfl, trivial⟩⟩)
    obtain ⟨fJ, qF, hM⟩ := ao hM
    refine At.rg mM ?_
    refine At.s rfl rfl (Ox.bP (vs := [_, _, _, _, _, _]) rfl rfl ew rfl (bz.any.part (j := 0) (n := 6) rfl) rfl (.put rfl) ?_)
    refine At.s rfl rfl (Ox.bP (vs := _) rfl rfl eP (by simp [gx]) ((aT.box z0).part (j := 0) (n := 6) (eE (by simp [gx]))) rfl (.put rfl) ?_)
    refine At.cv YO (abz x2 x0 bX b8 b9 gx mE) ?_
    rintro _ y8 _ ⟨cV, rfl, rfl⟩
    replace bX := bX.mono cV
    replace b8 := b8.mono cV
    replace b9 := b9.mono cV
    replace hI := hY.mono (rr) cV hI
    replace bz := bz.up (H := []) cV
    replace bK := bK.up (H := []) cV
    replace hY := hY.up cV
    refine vs 2 ?_
    refine At.kn 20 Gi ?_
    refine At.ld aye (bK.any.one (j := 0) rfl) ?_
    refine At.s rfl rfl (Ox.bP (vs := _) rfl rfl eP (by simp [gx]) ((aT.box z0).part (j := 0) (n := 6) (eE (by simp [gx]))) rfl (.put rfl) ?_)
    refine At.US rfl rfl rfl rfl rfl rfl rfl rfl ((hY.call [(cn, _)] (rr) hI ⟨_, rfl, ⟨gx, rfl⟩⟩ qF).mono ?_)
    rintro _ Xj _ ⟨og, rfl, WQ, aky, P7⟩
    replace P7 : _ = (cn, _) :: WQ := P7
    subst P7
    replace bX := bX.mono og
    replace b8 := b8.mono og
    replace b9 := b9.mono og
    replace bz := bz.up (H := []) og
    replace bK := bK.up (H := []) og
    replace hY := hY.up og
    refine ⟨_, (.put rfl), ?_⟩
    refine vs 2 ?_
    refine er ?_
    exact At.drop (so sr) (J4 _ (af hM).symm _ _ _ ⟨(cV.trans og), WQ, aky, rfl, aA.sub ⟨rfl, trivial⟩⟩)
   rintro lC agz afW azH ⟨Fl, y4, Qb, rfl, RK⟩ hM
   refine At.sub RK ?_
   replace hY := hY.up Fl
   obtain rfl := af hM
   exact rt Tryz.func157 (.tmp rfl .nil) sr (hk _ _ _ ⟨Fl, Qb, rfl⟩)
  refine sp ?_
  refine sq ?_
  obtain ⟨lI, Tn, hM⟩ := ao hM
  refine At.rg gd ?_
  refine vs 2 ?_
  refine At.ld cK (bz.any.one (j := 3) rfl) ?_
  refine vs 1 ?_
  obtain ⟨aJO, aMR, _, ⟨aQt, aLO, rfl⟩, alN, anC⟩ := bX.elem gN Tn
  refine At.s rfl rfl (Ox.bq rfl rfl rfl anC rfl (.put rfl) ?_)
  refine vs 1 ?_
  refine At.s rfl rfl (Ox.bP (vs := [_, _]) rfl rfl eJ rfl (alN.any.part (j := 2) (n := 2) rfl) rfl (.put rfl) ?_)
  refine At.s rfl rfl (Ox.alloc (cs := #[iv 0, iv 0]) rfl tK rfl λ e7 _ _ => ⟨_, (.put rfl), ?_⟩)
  refine At.s rfl rfl (Ox.bp (cs' := #[_, _]) rfl rfl rfl eJ rfl (ak rfl (ak rfl aW)) .here rfl rfl rfl (.refl _) ?_)
  refine es ?_
  refine sg aS ?_
  refine vs 1 ?_
  refine ld 0 bg z0 ?_
  refine vs 1 ?_
  refine er ?_
  refine At.block ?_
  refine At.fh hM (λ (dG : (S × Int × (List Int))) R' H' st' => aN R R' ∧ ∃ Jc, Inv dG.1 R' Jc ∧ dG.2.2.length = 5 ∧ H' = (e7, .cells #[iv lI.Weight.an, iv lI.Weight.ax] 23) :: (cn, .cells (List.toArray ([iv x0.fB] ++ (dG.2.2.map (Value.int .i64) ++ []))) 125) :: Jc ∧ aK st' [(1, iv x1), (4, .pointer (some ⟨b4, 0, none⟩)), (5, .pointer (some ⟨cn, 0, none⟩)), (8, .pointer (some ⟨e7, 0, none⟩)), (9, iv dG.2.1)]) (λ (jm : S) R' H' st' => aN R R' ∧ ∃ OB, Inv jm R' OB ∧ OB = H' ∧ aK st' []) 0 rfl ⟨rr, Hy, hI, gx, rfl, aA.sub ⟨rfl, rfl, rfl, rfl, rfl, trivial⟩⟩ ?_ ?_
  rotate_right
  ·rintro dG WY WB acw ⟨sA, Jc, Zs, G0, rfl, F0⟩ cJ hM ES wR HC
   refine At.sub F0 ?_
   replace bX := bX.mono sA
   replace b8 := b8.mono sA
   replace b9 := b9.mono sA
   replace bz := bz.up (H := []) sA
   replace bK := bK.up (H := []) sA
   replace cg := cg.up (H := []) sA
   replace hY := hY.up sA
   refine sq ?_
   refine sg bn ?_
   refine vs 2 ?_
   refine ld 1 bg z0 ?_
   refine vs 1 ?_
   refine er ?_
   refine sc hM (λ uN hM => ?_) (λ uN hM => ?_)
   ·refine sp ?_
    refine sq ?_
    refine At.block ?_
    refine sq ?_
    obtain ⟨gb, oE, hM⟩ := ao hM
    refine At.rg bT ?_
    refine vs 3 ?_
    refine At.s rfl rfl (Ox.bq rfl rfl rfl (sW EX G0 oE) rfl (.put rfl) ?_)
    refine At.s rfl rfl (Ox.cM rfl rfl rfl bg rfl (.there .here) (OY oE rfl) (OZ oE rfl) rfl (.refl _) ?_)
    refine es ?_
    obtain ⟨ju, Ar, hM⟩ := ao hM
    refine At.rg dy ?_
    refine At.ld Uw (cg.any.one (j := 0) rfl) ?_
    refine At.s rfl rfl (Ox.bP (vs := _) rfl rfl eP (by simp [G0]) ((aT.box z1).part (j := 0) (n := 6) (eE (by simp [G0]))) rfl (.put rfl) ?_)
    refine vs 2 ?_
    refine At.step rfl rfl rfl (Ox.dO rfl rfl rfl rfl YR rfl rfl ((ih (hY.frame [(e7, _), (cn, _)]) (⟨x0.fB, dG.2.2.set x1.toNat dG.2.1⟩ : bu) (i64 (x1 + 1)) x2 ⟨_, Zs, rfl⟩ ((List.length_set).trans G0) bz.any bX b8 b9 bK cg Ar).mono ?_))
    rintro _ OO _ ⟨jF, ⟨WT, Zv, Qa⟩, rfl⟩
    replace Qa : _ = (e7, _) :: (cn, _) :: WT := Qa
    subst Qa
    replace bX := bX.mono jF
    replace b8 := b8.mono jF
    replace b9 := b9.mono jF
    replace bz := bz.up (H := []) jF
    replace bK := bK.up (H := []) jF
    replace cg := cg.up (H := []) jF
    replace hY := hY.up jF
    refine ⟨_, (.put rfl), ?_⟩
    refine vs 1 ?_
    refine er ?_
    refine sc hM (λ ot hM => ?_) (λ ot hM => ?_)
    ·refine sg aL ?_
     refine vs 1 ?_
     refine er ?_
     replace hM := HC _ (af hM).symm
     obtain rfl := af hM
     exact rt Tryz.func157 (.tmp rfl .nil) (so (so sr)) (hk _ _ _ ⟨(sA.trans jF), Zv, rfl⟩)
    refine sp ?_
    refine At.inBlock ?_
    refine At.rg aS ?_
    refine vs 3 ?_
    refine er ?_
    exact ES _ (af hM).symm _ _ _ ⟨(sA.trans jF), WT, Zv, ((List.length_set).trans G0), rfl, aA.sub ⟨rfl, rfl, rfl, rfl, rfl, trivial⟩⟩
   exact At.exit rfl (At.drop (so (so sr)) (wR _ (af hM).symm _ _ _ ⟨sA, Jc, Zs, rfl, aA.sub trivial⟩))
  rintro jm OF N7 UP ⟨ZB, OB, akv, rfl, zZ⟩ hM
  refine At.sub zZ ?_
  replace hY := hY.up ZB
  refine sg aL ?_
  refine vs 1 ?_
  refine er ?_
  obtain rfl := af hM
  exact rt Tryz.func157 (.tmp rfl .nil) sr (hk _ _ _ ⟨ZB, akv, rfl⟩)
theorem Uf {S : Type} {ys : bu → S → Option (S × Bool)} {vY : Value} {Inv : S → aI → au → Prop} {R : aI} {Hy : au} (hY : iq ag R (jR fL) vY ys Inv) (x0 : aq) {s0 : S} (hI : Inv s0 R Hy) {aC aD aH : Value} (ay : aj bm 5 R aC x0.az) (aB : aj CZ 1 R aD x0.Out) (aF : aj bh 2 R aH x0.aO) {r : S} (hM : pK ys x0 s0 = some r) : aJ ag 130 #[.agg #[iv x0.aE, iv x0.aa.an, iv x0.aa.ax, aC, aD, aH], vY] R Hy (λ v R' H' => aN R R' ∧ Inv r R' H' ∧ v = .tuple #[]) := by
 unfold pK at hM
 refine aJ.aX Tryz.func130 rfl (n := 24) rfl rfl λ fr cs hk => ?_
 refine sg aQ ?_
 refine bx λ cn => ?_
 refine At.s rfl rfl (Ox.uk rfl rfl hY.cells rfl λ m7 _ _ => ⟨_, (.put rfl), ?_⟩)
 refine nx aL ?_
 refine At.s rfl rfl (Ox.alloc (cs := #[.nilFunc]) rfl aBG rfl λ jU _ _ => ⟨_, (.put rfl), ?_⟩)
 refine nx aQ ?_
 refine At.s rfl rfl (Ox.makeFunc (vs := #[]) (us := #[_, _, _]) rfl rfl rfl rfl (.put rfl) ?_)
 refine At.s rfl rfl (Ox.cM (cs' := #[_]) rfl rfl rfl Uw rfl .here rfl rfl rfl (.refl _) ?_)
 refine es ?_
 refine At.nh (H2 := (jU, _) :: (m7, _) :: Hy) (λ X => (jU, _) :: (m7, _) :: X ++ (Hy)) (.cons (.cons .id)) rfl (λ Xc kA iC => ?_)
 replace ay := ay.mono kA
 replace aB := aB.mono kA
 replace aF := aF.mono kA
 replace hI := hY.mono (rr) kA hI
 replace hY := hY.up kA
 refine At.nh (H2 := (jU, _) :: Hy) (λ X => (jU, _) :: X ++ (Hy)) (.cons .id) rfl (λ agG k7 om => ?_)
 replace ay := ay.mono k7
 replace aB := aB.mono k7
 replace aF := aF.mono k7
 replace hI := hY.mono (rr) k7 hI
 replace iC := iC.up (H := []) k7
 replace hY := hY.up k7
 refine At.nh (H2 := Hy) (λ X => X ++ (Hy)) .id rfl (λ OK j0 qt => ?_)
 replace ay := ay.mono j0
 replace aB := aB.mono j0
 replace aF := aF.mono j0
 replace hI := hY.mono (rr) j0 hI
 replace iC := iC.up (H := []) j0
 replace om := om.up (H := []) j0
 replace hY := hY.up j0
 refine At.rg bT ?_
 refine vs 3 ?_
 refine At.ld bg (iC.any.one (j := 1) rfl) ?_
 refine vs 1 ?_
 refine er ?_
 refine At.block ?_
 refine At.fh hM (λ (kJ : (S × Int)) R' H' st' => aN OK R' ∧ ∃ Jb, Inv kJ.1 R' Jb ∧ Jb = H' ∧ aK st' [(2, .pointer (some ⟨cn, 0, none⟩)), (4, .pointer (some ⟨jU, 0, none⟩)), (5, iv kJ.2)]) (λ (Dd : S) R' H' st' => aN OK R' ∧ ∃ OA, Inv Dd R' OA ∧ OA = H' ∧ aK st' []) 0 rfl ⟨rr, Hy, hI, rfl, aA.sub ⟨rfl, rfl, rfl, trivial⟩⟩ ?_ ?_
 rotate_right
 ·rintro kJ R26 H26 aOd ⟨sx, Jb, Zr, rfl, aqh⟩ fR hM ag4 ajq ayl
  refine At.sub aqh ?_
  replace ay := ay.mono sx
  replace aB := aB.mono sx
  replace aF := aF.mono sx
  replace iC := iC.up (H := []) sx
  replace om := om.up (H := []) sx
  replace qt := qt.up (H := []) sx
  replace hY := hY.up sx
  refine sq ?_
  refine sg dy ?_
  refine vs 4 ?_
  refine At.ld bg (iC.any.one (j := 2) rfl) ?_
  refine vs 1 ?_
  refine er ?_
  refine sc hM (λ qB hM => ?_) (λ qB hM => ?_)
  ·refine sp ?_
   refine sq ?_
   refine At.block ?_
   refine sg bT ?_
   refine At.ld Uw (qt.any.one (j := 0) rfl) ?_
   refine vs 1 ?_
   refine At.s rfl rfl (Ox.build (cells := (List.toArray ([iv kJ.2] ++ ([0, 0, 0, 0, 0].map (Value.int .i64) ++ [])))) rfl HM rfl rfl rfl (.put rfl) ?_)
   obtain ⟨gP, sS, hM⟩ := ao hM
   refine At.step rfl rfl rfl (Ox.dO rfl rfl rfl rfl YR rfl rfl ((aw5 9  (hY.frame []) (⟨kJ.2, [0, 0, 0, 0, 0]⟩ : bu) 0 x0 ⟨_, Zr, rfl⟩ rfl iC.any ay aB aF om qt sS).mono ?_))
   rintro _ OL _ ⟨iB, ⟨WR, Zt, P8⟩, rfl⟩
   replace P8 : WR = _ := P8.symm
   subst P8
   replace iC := iC.up (H := []) iB
   replace om := om.up (H := []) iB
   replace qt := qt.up (H := []) iB
   replace hY := hY.up iB
   refine ⟨_, (.put rfl), ?_⟩
   refine vs 1 ?_
   refine er ?_
   refine sc hM (λ Gj hM => ?_) (λ Gj hM => ?_)
   ·replace hM := ayl _ (af hM).symm
    obtain rfl := af hM
    exact rt Tryz.func130 .nil sr (hk _ _ _ ⟨((((kA.trans k7).trans j0).trans sx).trans iB), Zt, rfl⟩)
   refine sp ?_
   refine At.inBlock ?_
   refine At.rg aS ?_
   refine vs 3 ?_
   refine er ?_
   exact ag4 _ (af hM).symm _ _ _ ⟨(sx.trans iB), WR, Zt, rfl, aA.sub ⟨rfl, rfl, rfl, trivial⟩⟩
  exact At.exit rfl (ajq _ (af hM).symm _ _ _ ⟨sx, Jb, Zr, rfl, aA.sub trivial⟩)
 rintro Dd aGF aEJ aOf ⟨Zz, OA, aku, rfl, aqj⟩ hM
 refine At.sub aqj ?_
 replace hY := hY.up Zz
 obtain rfl := af hM
 exact At.wN Tryz.func130 .nil (J.drop sr (hk _ _ _ ⟨(((kA.trans k7).trans j0).trans Zz), aku, rfl⟩))
theorem axc (x1 : (bu → ((List bu) ⊕ Empty) → Option (((List bu) ⊕ Empty) × Bool)) → ((List bu) ⊕ Empty) → Option ((List bu) ⊕ Empty)) {v1 : Value} (h1 : EM ag R (jR fL) v1 x1) {r : (List bu)} (hM : Eg x1 = some r) : aJ ag 165 #[.slice none 0 0, v1] R H (λ v R' H' => aN R R' ∧ H = H' ∧ ∃ bU, aj fL 6 R' bU r ∧ v = bU) := by
 unfold Eg at hM
 refine aJ.aX Tryz.func165 rfl (n := 13) rfl rfl λ fr cs hk => ?_
 refine sg aQ ?_
 refine At.s rfl rfl (Ox.uk rfl rfl rfl rfl λ jX _ _ => ⟨_, (.put rfl), ?_⟩)
 refine vs 1 ?_
 refine es ?_
 refine sg aL ?_
 refine vs 1 ?_
 refine er ?_
 refine At.block ?_
 obtain ⟨aKV, aKW, aKB, rfl, amn, apx⟩ := h1
 refine At.HJ (A := (jR fL)) (λ y s => x1 y s)  hM rfl amn rfl rfl rfl (λ (iF : (List bu)) R' T H' => aN R R' ∧ ∃ yb yV, aZ fL 6 125 R' yb iF yV ∧ H' = yV ++ ((jX, .cells #[yb] 103) :: T))  (λ iF R0 T0 H0 q => by obtain ⟨hR, yb, yV, FR, rfl⟩ := q; exact ⟨yV ++ ((jX, .cells #[yb] 103) :: []), by simp, λ R1 T1 h => ⟨hR.trans h, yb, yV, FR.mono h, by simp⟩⟩)  (λ v Inv Hy z hY hI hz => apx _ (rr) _ _ _ _ _ _ hY hI hz) ⟨rr, .slice none 0 0, [], aZ.nil, rfl⟩ ?_ ?_
 ·rintro UG iF OE afX _ ⟨zy, yb, yV, FR, rfl⟩ hM
  refine At.inBlock ?_
  refine sg aQ ?_
  refine ld 0 qT (List.mem_append_right _ z0) ?_
  refine vs 1 ?_
  refine er ?_
  refine At.dB (H2 := (jX, _) :: (UG, _) :: H) (λ X => X ++ ((jX, _) :: (UG, _) :: H)) .id rfl FR (λ aHS akV amH => ?_)
  obtain rfl := af hM
  exact At.qW (.there .here) Tryz.func165 (.tmp rfl .nil) (J.drop (so (so sr)) (hk _ _ _ ⟨(zy.trans akV), rfl, yb, amH, rfl⟩))
 rintro aAb yl iF OE Xv H33 l33 avY ah3 _ ala ⟨_, rfl, ⟨u5, rfl⟩⟩ ⟨zy, yb, yV, FR, rfl⟩ Rc z33 hM OP
 refine At.rg aQ ?_
 refine At.s rfl rfl (Ox.alloc (cs := (List.toArray ([iv 0] ++ ([0, 0, 0, 0, 0].map (Value.int .i64) ++ [])))) rfl yo rfl λ o7 _ _ => ⟨_, (.put rfl), ?_⟩)
 refine At.s rfl rfl (Ox.bp (cs' := _) rfl rfl rfl eP (by simp [u5]) (cr (ak rfl aW) (cr (eM λ _ => rfl) aW)) .here (by simp) (eB (by simp [u5])) rfl (.refl _) ?_)
 refine er ?_
 refine At.beginRound rfl rfl (.there (.skip (.there .here))) Rc ?_
 refine At.block ?_
 refine At.rg bT ?_
 refine At.ld qT ((aT.box (.tail _ (List.mem_append_right _ z0))).one (j := 0) rfl) ?_
 refine At.s rfl rfl (Ox.bP (vs := _) rfl rfl eP (by simp [u5]) ((aT.box z0).part (j := 0) (n := 6) (eE (by simp [u5]))) rfl (.put rfl) ?_)
 refine At.s rfl rfl (Ox.buildSlice (cells := (List.toArray ([iv yl.fB] ++ (yl.weights.map (Value.int .i64) ++ [])))) rfl ah7 rfl (by decide) ahJ (bf rfl rfl (by simp [Value.cells, u5]) (eB (by simp [Value.cells, u5])) aY) rfl λ uh _ _ => ⟨_, (.put rfl), ?_⟩)
 obtain ⟨Iq, auY, hM⟩ := ao hM
 refine At.s rfl rfl (Ox.append (K := fL) (λ X => (uh, _) :: (o7, _) :: X ++ ((jX, _) :: (l33, _) :: Xv)) rfl rfl rfl ahv Tryz.underlying103 (by simp) (.cons (.cons .id)) FR (cE.lit z0 (aG.le (aG.single (x := yl) ⟨u5, rfl⟩ (by simp [u5])) rfl) rfl) auY rfl λ aAT agh aaa => ⟨_, (.put rfl), ?_⟩)
 refine At.s rfl rfl (Ox.cM (cs' := #[_]) rfl rfl rfl qT aaa.one (.there (.there (.skip .here))) rfl rfl rfl (.refl _) ?_)
 refine er ?_
 refine At.inBlock ?_
 exact At.drop (so (so sr)) (OP _ (af hM).symm _ _ _ (rr) ⟨zy, aAT, agh, aaa, rfl⟩)
theorem aw0 (x0 : (bu → ((List bu) ⊕ Empty) → Option (((List bu) ⊕ Empty) × Bool)) → ((List bu) ⊕ Empty) → Option ((List bu) ⊕ Empty)) {v0 : Value} (h0 : EM ag R (jR fL) v0 x0) {r : (List bu)} (hM : CR x0 = some r) : aJ ag 146 #[v0] R H (λ v R' H' => aN R R' ∧ H = H' ∧ ∃ bU, aj fL 6 R' bU r ∧ v = bU) := by
 unfold CR at hM
 refine aJ.aX Tryz.func146 rfl (n := 5) rfl rfl λ fr cs hk => ?_
 refine sg aL ?_
 refine vs 1 ?_
 refine nx aS ?_
 refine vs 1 ?_
 obtain ⟨cA, ff, hM⟩ := ao hM
 refine At.cv aiD (axc x0 h0 ff) ?_
 rintro MP BT _ ⟨fV, rfl, _, cQ, rfl⟩
 refine vs 1 ?_
 refine er ?_
 obtain rfl := af hM
 exact rt Tryz.func146 (.tmp rfl .nil) sr (hk _ _ _ ⟨fV, rfl, MP, cQ, rfl⟩)
theorem oI (x0 : aq) (x1 : (aq → Option Int)) {aC aD aH v1 : Value} (hG : fM R) (ay : aj bm 5 R aC x0.az) (aB : aj CZ 1 R aD x0.Out) (aF : aj bh 2 R aH x0.aO) (h1 : n4 ag R H (jR N5) (VI .i64) v1 x1) {r : (cW × Int)} (hM : nC x0 x1 = some r) : aJ ag 89 #[.agg #[iv x0.aE, iv x0.aa.an, iv x0.aa.ax, aC, aD, aH], v1] R H (λ v R' H' => aN R R' ∧ ∃ cH dK dL dM acX acY, aj bm 5 R' dK r.1.book.az ∧ aj CZ 1 R' dL r.1.book.Out ∧ aj bh 2 R' dM r.1.book.aO ∧ aj fL 6 R' acX r.1.dR ∧ lT acY r.1.nL cH ∧ v = .tuple #[.agg #[iv r.1.book.aE, iv r.1.book.aa.an, iv r.1.book.aa.ax, dK, dL, dM, acX, acY], iv r.2] ∧ H' = cH ++ H) := by
 unfold nC at hM
 refine aJ.aX Tryz.func89 rfl (n := 38) rfl rfl λ fr cs hk => ?_
 refine sg aS ?_
 refine bx λ lW => ?_
 refine At.s rfl rfl (Ox.alloc (cs := #[iv 0, iv 0, iv 0, .slice none 0 0, .slice none 0 0, .slice none 0 0, .slice none 0 0, .map none]) rfl mT rfl λ e7 _ _ => ⟨_, (.put rfl), ?_⟩)
 refine vs 1 ?_
 refine es ?_
 refine sg aS ?_
 refine lN [_, _, _, _, _, _] 0 6 aU z1 ?_
 obtain ⟨cJ, qG, hM⟩ := ao hM
 refine At.cv uo (ve x0 hG ay aB aF qG) ?_
 rintro _ EK _ ⟨iz, rfl, rfl⟩
 replace ay := ay.mono iz
 replace aB := aB.mono iz
 replace aF := aF.mono iz
 replace h1 := h1.up iz pp
 refine vs 1 ?_
 refine nx aQ ?_
 refine vs 2 ?_
 refine er ?_
 refine sc hM (λ qB hM => ?_) (λ qB hM => ?_)
 ·refine sg bn ?_
  refine At.s rfl rfl (Ox.build (cells := #[_, _, _, _, _, _, _, _]) rfl Mc rfl aY rfl (.put rfl) ?_)
  refine vs 1 ?_
  refine At.s rfl rfl (Ox.bp (cs' := #[_, _, _, _, _, _, _, _]) rfl rfl rfl eK rfl (ak rfl (ak rfl (ak rfl (ak rfl (ak rfl (ak rfl (ak rfl (ak rfl aW)))))))) .here rfl rfl rfl (.refl _) ?_)
  refine vs 1 ?_
  refine er ?_
  obtain rfl := af hM
  exact rt Tryz.func89 (.agg rfl eK rfl (aT.box z0) (.tmp rfl .nil)) (so (so sr)) (hk _ _ _ ⟨iz, [], .slice none 0 0, .slice none 0 0, .slice none 0 0, .slice none 0 0, .map none, aj.nil, aj.nil, aj.nil, aj.nil, .none, rfl, rfl⟩)
 refine sp ?_
 refine sg dy ?_
 refine lN [_, _, _, _, _, _] 0 6 aU z1 ?_
 refine At.s rfl rfl (Ox.build (cells := #[_, _, _, _, _, _]) rfl pV rfl (bf rfl rfl rfl rfl aY) rfl (.put rfl) ?_)
 refine At.s rfl rfl (Ox.makeMap rfl rfl λ Va Ow KB => ⟨_, (.put rfl), ?_⟩)
 refine At.s rfl rfl (Ox.build (cells := #[_, _, _, _, _, _, _, _]) rfl Mc rfl (bf rfl rfl rfl rfl (bf rfl KB.cells rfl rfl aY)) rfl (.put rfl) ?_)
 refine At.s rfl rfl (Ox.alloc (cs := #[iv 0, iv 0, iv 0, .slice none 0 0, .slice none 0 0, .slice none 0 0, .slice none 0 0, .map none]) rfl mT rfl λ o7 _ _ => ⟨_, (.put rfl), ?_⟩)
 refine At.s rfl rfl (Ox.bp (cs' := #[_, _, _, _, _, _, _, _]) rfl rfl rfl eK rfl (ak rfl (ak rfl (ak rfl (ak ay.one (ak aB.one (ak aF.one (ak rfl (ak KB.one aW)))))))) .here rfl rfl rfl (.refl _) ?_)
 refine es ?_
 refine sg bT ?_
 refine vs 2 ?_
 refine lN [_, _, _, _, _, _] 0 6 ew z0 ?_
 obtain ⟨fC, sU, hM⟩ := ao hM
 refine At.step rfl rfl rfl (Ox.B2 h1 rfl rfl rfl ⟨_, rfl, ⟨_, _, _, ay, aB, aF, rfl⟩⟩ sU rfl (su (so (aP (so (so sr))))) ?_)
 rintro _ OM qq rfl
 replace ay := ay.mono qq
 replace aB := aB.mono qq
 replace aF := aF.mono qq
 replace h1 := h1.up qq pp
 refine ⟨_, (.put rfl), ?_⟩
 refine vs 1 ?_
 refine nx aQ ?_
 refine vs 2 ?_
 refine er ?_
 refine sc hM (λ Gk hM => ?_) (λ Gk hM => ?_)
 ·refine sg bn ?_
  refine At.s rfl rfl (Ox.build (cells := #[_, _, _, _, _, _, _, _]) rfl Mc rfl aY rfl (.put rfl) ?_)
  refine vs 1 ?_
  refine At.s rfl rfl (Ox.bp (cs' := #[_, _, _, _, _, _, _, _]) rfl rfl rfl eK rfl (ak rfl (ak rfl (ak rfl (ak rfl (ak rfl (ak rfl (ak rfl (ak rfl aW)))))))) (.there (.skip .here)) rfl rfl rfl (.refl _) ?_)
  refine vs 1 ?_
  refine er ?_
  obtain rfl := af hM
  exact rt Tryz.func89 (.agg rfl eK rfl (aT.box (.tail _ (List.mem_append_right _ z0))) (.tmp rfl .nil)) (so (aP (so (so sr)))) (hk _ _ _ ⟨(iz.trans qq), [], .slice none 0 0, .slice none 0 0, .slice none 0 0, .slice none 0 0, .map none, aj.nil, aj.nil, aj.nil, aj.nil, .none, rfl, rfl⟩)
 refine sp ?_
 refine sq ?_
 refine sg dy ?_
 refine vs 1 ?_
 refine lN [_, _, _, _, _, _] 0 6 ew z0 ?_
 refine At.s rfl rfl (Ox.makeFunc (vs := #[_]) (us := #[]) rfl rfl rfl rfl (.put rfl) ?_)
 obtain ⟨nP, Tv, hM⟩ := ao hM
 refine At.cv ais (aw0 (λ y s => pK y x0 s) ⟨130, #[_], #[], rfl, PB, λ R' hR w y Inv Hy s z hY hI hz => (Uf hY x0 hI (ay.mono hR) (aB.mono hR) (aF.mono hR) hz).mono λ _ _ _ h => ⟨h.1, h.2.1⟩⟩ Tv) ?_
 rintro aAX aIJ _ ⟨FB, rfl, _, KR, rfl⟩
 replace ay := ay.mono FB
 replace aB := aB.mono FB
 replace aF := aF.mono FB
 refine vs 1 ?_
 refine At.s rfl rfl (Ox.cM (cs' := #[_, _, _, _, _, _, _, _]) rfl rfl rfl qT KR.one .here rfl rfl rfl (.refl _) ?_)
 refine nx bn ?_
 refine vs 1 ?_
 refine ld 6 qT z0 ?_
 refine ls KR Tryz.underlying103 ?_
 refine vs 1 ?_
 refine er ?_
 refine sc hM (λ SS hM => ?_) (λ SS hM => ?_)
 ·refine sg aS ?_
  refine At.s rfl rfl (Ox.build (cells := #[_, _, _, _, _, _, _, _]) rfl Mc rfl aY rfl (.put rfl) ?_)
  refine At.s rfl rfl (Ox.bp (cs' := #[_, _, _, _, _, _, _, _]) rfl rfl rfl eK rfl (ak rfl (ak rfl (ak rfl (ak rfl (ak rfl (ak rfl (ak rfl (ak rfl aW)))))))) (.there (.skip .here)) rfl rfl rfl (.refl _) ?_)
  refine vs 1 ?_
  refine er ?_
  obtain rfl := af hM
  exact rt Tryz.func89 (.agg rfl eK rfl (aT.box (.tail _ (List.mem_append_right _ z0))) (.tmp rfl .nil)) (so (aP (so (so sr)))) (hk _ _ _ ⟨((iz.trans qq).trans FB), [], .slice none 0 0, .slice none 0 0, .slice none 0 0, .slice none 0 0, .map none, aj.nil, aj.nil, aj.nil, aj.nil, .none, rfl, rfl⟩)
 refine sp ?_
 refine sg aS ?_
 refine lN [_, _, _, _, _, _, _, _] 0 8 eK z0 ?_
 refine At.s rfl rfl (Ox.bp (cs' := #[_, _, _, _, _, _, _, _]) rfl rfl rfl eK rfl (ak rfl (ak rfl (ak rfl (ak ay.one (ak aB.one (ak aF.one (ak KR.one (ak KB.one aW)))))))) (.there (.skip .here)) rfl rfl rfl (.refl _) ?_)
 refine vs 1 ?_
 refine er ?_
 obtain rfl := af hM
 exact rt Tryz.func89 (.agg rfl eK rfl (aT.box (.tail _ (List.mem_append_right _ z0))) (.tmp rfl .nil)) (so (eD (so (so sr)))) (hk _ _ _ ⟨((iz.trans qq).trans FB), Ow, aC, aD, aH, aAX, Va, ay, aB, aF, KR, KB, rfl, rfl⟩)
theorem Hu (x0 : aq) {aC aD aH : Value} (_ : aj bm 5 R aC x0.az) (_ : aj CZ 1 R aD x0.Out) (_ : aj bh 2 R aH x0.aO) {r : Int} (hM : mY x0 = some r) : aJ ag 90 #[.agg #[iv x0.aE, iv x0.aa.an, iv x0.aa.ax, aC, aD, aH]] R H (λ v R' H' => R = R' ∧ H = H' ∧ v = iv r) := by
 unfold mY at hM
 refine aJ.aX Tryz.func90 rfl (n := 3) rfl rfl λ fr cs hk => ?_
 refine sg aQ ?_
 refine bx λ m7 => ?_
 refine vs 1 ?_
 refine nx aL ?_
 refine vs 1 ?_
 refine er ?_
 obtain rfl := af hM
 exact rt Tryz.func90 (.tmp rfl .nil) (so sr) (hk _ _ _ ⟨rfl, rfl, rfl⟩)
theorem Un (x0 : aq) (x1 : (List Bool)) {aC aD aH : Value} (ay : aj bm 5 R aC x0.az) (aB : aj CZ 1 R aD x0.Out) (aF : aj bh 2 R aH x0.aO) (l1 : x1.length = 5) {r : (List Int)} (hM : v9 x0 x1 = some r) : aJ ag 92 #[.agg #[iv x0.aE, iv x0.aa.an, iv x0.aa.ax, aC, aD, aH], .agg (List.toArray ([] ++ (x1.map Value.bool ++ [])))] R H (λ v R' H' => aN R R' ∧ H = H' ∧ ∃ bU, aj CZ 1 R' bU r ∧ v = bU) := by
 unfold v9 at hM
 refine aJ.aX Tryz.func92 rfl (n := 24) rfl rfl λ fr cs hk => ?_
 refine sg aS ?_
 refine bx λ o8 => ?_
 refine bx λ jB => ?_
 refine vs 1 ?_
 refine nx aL ?_
 refine vs 1 ?_
 refine es ?_
 refine sg bT ?_
 refine vs 2 ?_
 refine ld 3 cK z1 ?_
 refine ls ay Tryz.underlying24 ?_
 refine vs 1 ?_
 refine er ?_
 refine At.block ?_
 refine At.c8 hM (λ (nF : ((List Int) × Int)) R' H' st' => aN R R' ∧ ∃ HW Ez, aZ CZ 1 3 R' HW nF.1 Ez ∧ H' = Ez ++ ((jB, .cells (List.toArray ([] ++ (x1.map Value.bool ++ []))) 112) :: (o8, .cells #[iv x0.aE, iv x0.aa.an, iv x0.aa.ax, aC, aD, aH] 102) :: H) ∧ aK st' [(2, .pointer (some ⟨o8, 0, none⟩)), (3, .pointer (some ⟨jB, 0, none⟩)), (5, HW), (10, iv (x0.az.length : Int)), (11, iv nF.2)]) (λ (LP : (List Int)) R' H' st' => aN R R' ∧ ∃ Mt Oh, aZ CZ 1 3 R' Mt LP Oh ∧ H' = Oh ++ (H) ∧ aK st' [(5, Mt)]) 0 rfl ⟨rr, .slice none 0 0, [], aZ.nil, rfl, aA.sub ⟨rfl, rfl, rfl, rfl, rfl, trivial⟩⟩ ?_ ?_
 rotate_right
 ·rintro nF R47 H47 aOx ⟨Ce, HW, Ez, FT, rfl, aqB⟩ p6 hM XF ajz
  refine At.sub aqB ?_
  replace ay := ay.mono Ce
  replace aB := aB.mono Ce
  replace aF := aF.mono Ce
  refine sg aL ?_
  refine vs 1 ?_
  refine es ?_
  refine sc hM (λ Gq hM => ?_) (λ Gq hM => ?_)
  ·refine sp ?_
   refine sq ?_
   refine At.block ?_
   refine sg aQ ?_
   refine vs 2 ?_
   refine nx bn ?_
   refine lN [_, _, _, _, _, _] 0 6 ew (List.mem_append_right _ z1) ?_
   refine At.s rfl rfl (Ox.bP (vs := _) rfl rfl dc (by simp [l1]) ((aT.box (List.mem_append_right _ z0)).part (j := 0) (n := 5) (eE (by simp [l1]))) rfl (.put rfl) ?_)
   refine vs 1 ?_
   obtain ⟨kP, GN, hM⟩ := ao hM
   refine At.cv YP (abA x0 x1 nF.2 ay aB aF l1 GN) ?_
   rintro _ aIN _ ⟨Qq, rfl, rfl⟩
   replace FT := FT.mono Qq
   refine er ?_
   refine sc hM (λ qD hM => ?_) (λ qD hM => ?_)
   ·refine At.rg bT ?_
    refine vs 2 ?_
    refine At.s rfl rfl (Ox.buildSlice (cells := #[_]) rfl ck rfl (by decide) cS (bf rfl rfl rfl rfl aY) rfl λ zi _ _ => ⟨_, (.put rfl), ?_⟩)
    obtain ⟨iK, uX, hM⟩ := ao hM
    refine At.s rfl rfl (Ox.append (K := CZ) (λ X => (zi, _) :: X ++ ((jB, _) :: (o8, _) :: H)) rfl rfl rfl cR Tryz.underlying25 (by simp) (.cons .id) FT (cE.lit z0 (aG.le (aG.cons (x := nF.2) rfl rfl aG.nil) rfl) rfl) uX rfl λ aBg agm apj => ⟨_, (.put rfl), ?_⟩)
    refine vs 1 ?_
    refine er ?_
    refine At.inBlock ?_
    refine At.rg aQ ?_
    refine vs 2 ?_
    refine er ?_
    exact At.drop (so sr) (XF _ (af hM).symm _ _ _ ⟨(Ce.trans Qq), aBg, agm, apj, rfl, aA.sub ⟨rfl, rfl, rfl, rfl, rfl, trivial⟩⟩)
   refine sp ?_
   refine At.inBlock ?_
   refine At.rg aQ ?_
   refine vs 2 ?_
   refine er ?_
   exact XF _ (af hM).symm _ _ _ ⟨(Ce.trans Qq), HW, Ez, FT, rfl, aA.sub ⟨rfl, rfl, rfl, rfl, rfl, trivial⟩⟩
  exact At.exit rfl (At.drop (eD (so (so sr))) (ajz _ (af hM).symm _ _ _ ⟨Ce, HW, Ez, FT, rfl, aA.sub ⟨rfl, trivial⟩⟩))
 rintro LP aGU aE0 aOA ⟨akH, Mt, Oh, aoP, rfl, aqE⟩ hM
 refine At.sub aqE ?_
 refine sg aQ ?_
 refine vs 2 ?_
 refine er ?_
 refine At.dB (H2 := H) (λ X => X ++ (H)) .id rfl aoP (λ aHX akZ amM => ?_)
 obtain rfl := af hM
 exact rt Tryz.func92 (.tmp rfl .nil) sr (hk _ _ _ ⟨(akH.trans akZ), rfl, Mt, amM, rfl⟩)
theorem Ui {S : Type} {ys : (List Bool) → S → Option (S × Bool)} {vY : Value} {Inv : S → aI → au → Prop} {R : aI} {Hy : au} (hY : iq ag R (jR (IU Value.bool 5)) vY ys Inv) (x1 : aq) (x2 : (List Int)) {s0 : S} (hI : Inv s0 R Hy) {jM iH jN v2 : Value} {b1 b2 : Nat} (cN : aT R [] b1 0 [iv x1.aE, iv x1.aa.an, iv x1.aa.ax, jM, iH, jN]) (_ : aj bm 5 R jM x1.az) (k6 : aj CZ 1 R iH x1.Out) (_ : aj bh 2 R jN x1.aO) (bz : aT R [] b2 0 [v2]) (h2 : aj CZ 1 R v2 x2) {r : S} (hM : qO ys x1 x2 s0 = some r) : aJ ag 151 #[vY, .pointer (some ⟨b1, 0, none⟩), .pointer (some ⟨b2, 0, none⟩)] R Hy (λ v R' H' => aN R R' ∧ Inv r R' H' ∧ v = .tuple #[]) := by
 unfold qO at hM
 refine aJ.aX Tryz.func151 rfl (n := 27) rfl rfl λ fr cs hk => ?_
 refine sg dY ?_
 refine At.s rfl rfl (Ox.qj (z := (List.toArray ([] ++ ([false, false, false, false, false].map Value.bool ++ [])))) rfl qg rfl (.put rfl) ?_)
 refine vs 2 ?_
 refine At.ld bL (cN.any.one (j := 4) rfl) ?_
 obtain ⟨MX, atC, hM⟩ := ao hM
 refine At.cv fU (fX [false, false, false, false, false] x1.Out rfl k6.rd atC) ?_
 rintro _ _ _ ⟨rfl, rfl, T3, rfl⟩
 refine At.s rfl rfl (Ox.alloc (cs := (List.toArray ([] ++ ([false, false, false, false, false].map Value.bool ++ [])))) rfl j7 rfl λ m7 _ _ => ⟨_, (.put rfl), ?_⟩)
 refine At.s rfl rfl (Ox.bp (cs' := _) rfl rfl rfl dc (by simp [T3]) (cr aW (cr (eM λ _ => rfl) aW)) .here (by simp) (eB (by simp [T3])) rfl (.refl _) ?_)
 refine nx aS ?_
 refine At.ld bL (bz.any.one (j := 0) rfl) ?_
 refine ls h2 Tryz.underlying25 ?_
 refine vs 1 ?_
 refine er ?_
 refine At.block ?_
 refine At.fh hM (λ (jn : (S × Int × (List Bool))) R' H' st' => aN R R' ∧ ∃ Ja, Inv jn.1 R' Ja ∧ jn.2.2.length = 5 ∧ H' = (m7, .cells (List.toArray ([] ++ (jn.2.2.map Value.bool ++ []))) 112) :: Ja ∧ aK st' [(0, vY), (4, .pointer (some ⟨m7, 0, none⟩)), (12, v2), (13, iv (x2.length : Int)), (14, iv jn.2.1)]) (λ (Db : S) R' H' st' => aN R R' ∧ ∃ Oz, Inv Db R' Oz ∧ Oz = H' ∧ aK st' []) 0 rfl ⟨rr, Hy, hI, T3, rfl, aA.sub ⟨rfl, rfl, rfl, rfl, rfl, trivial⟩⟩ ?_ ?_
 rotate_right
 ·rintro jn R22 H22 aN3 ⟨Fj, Ja, Zq, GZ, rfl, ap7⟩ M0 hM ag2 ajm ayj
  refine At.sub ap7 ?_
  replace h2 := h2.mono Fj
  replace hY := hY.up Fj
  refine sg aL ?_
  refine vs 1 ?_
  refine es ?_
  refine sc hM (λ Gj hM => ?_) (λ Gj hM => ?_)
  ·refine sp ?_
   refine sq ?_
   refine At.block ?_
   refine sg aS ?_
   obtain ⟨fC, sU, hM⟩ := ao hM
   obtain ⟨aJZ, aMY, _, rfl, alU, anL⟩ := h2.elem cL sU
   refine At.s rfl rfl (Ox.bq rfl rfl rfl anL rfl (.put rfl) ?_)
   refine At.ld bg (alU.any.one (j := 0) rfl) ?_
   refine vs 1 ?_
   refine nx bT ?_
   refine At.s rfl rfl (Ox.bP (vs := _) rfl rfl dc (by simp [GZ]) ((aT.box z0).part (j := 0) (n := 5) (eE (by simp [GZ]))) rfl (.put rfl) ?_)
   refine vs 1 ?_
   refine At.s rfl rfl (Ox.buildSlice (cells := #[_]) rfl ck rfl (by decide) cS (bf rfl rfl rfl rfl aY) rfl λ EY _ _ => ⟨_, (.put rfl), ?_⟩)
   obtain ⟨fc, oC, hM⟩ := ao hM
   refine At.cv fU (fX jn.2.2 [fC] GZ (bC.lit z0 (aG.le (aG.cons (x := fC) rfl rfl aG.nil) rfl) rfl) oC) ?_
   rintro _ _ _ ⟨rfl, rfl, CG, rfl⟩
   refine At.s rfl rfl (Ox.bp (cs' := _) rfl rfl rfl dc (by simp [CG]) (cr aW (cr (eM λ _ => rfl) aW)) (.there .here) (by simp [GZ]) (eB (by simp [CG, GZ])) rfl (.refl _) ?_)
   refine nx bn ?_
   refine vs 1 ?_
   refine At.s rfl rfl (Ox.bP (vs := _) rfl rfl dc (by simp [CG]) ((aT.box z1).part (j := 0) (n := 5) (eE (by simp [CG]))) rfl (.put rfl) ?_)
   obtain ⟨eO, oD, hM⟩ := ao hM
   refine At.US rfl rfl rfl rfl rfl rfl rfl rfl ((hY.call [(EY, _), (m7, _)] (rr) Zq ⟨_, rfl, ⟨CG, rfl⟩⟩ oD).mono ?_)
   rintro _ Xm _ ⟨oh, rfl, WS, Zu, P9⟩
   replace P9 : _ = (EY, _) :: (m7, _) :: WS := P9
   subst P9
   replace hY := hY.up oh
   refine ⟨_, (.put rfl), ?_⟩
   refine vs 1 ?_
   refine er ?_
   refine sc hM (λ ast hM => ?_) (λ ast hM => ?_)
   ·replace hM := ayj _ (af hM).symm
    obtain rfl := af hM
    exact rt Tryz.func151 .nil (so (so sr)) (hk _ _ _ ⟨(Fj.trans oh), Zu, rfl⟩)
   refine sp ?_
   refine At.inBlock ?_
   refine At.rg aQ ?_
   refine vs 2 ?_
   refine er ?_
   exact At.drop (so sr) (ag2 _ (af hM).symm _ _ _ ⟨(Fj.trans oh), WS, Zu, CG, rfl, aA.sub ⟨rfl, rfl, rfl, rfl, rfl, trivial⟩⟩)
  exact At.exit rfl (At.drop (so sr) (ajm _ (af hM).symm _ _ _ ⟨Fj, Ja, Zq, rfl, aA.sub trivial⟩))
 rintro Db aGv aEA aN5 ⟨Zy, Oz, akt, rfl, ap9⟩ hM
 refine At.sub ap9 ?_
 replace hY := hY.up Zy
 obtain rfl := af hM
 exact At.wN Tryz.func151 .nil (J.drop sr (hk _ _ _ ⟨Zy, akt, rfl⟩))
theorem T4 (x0 : aq) (x1 : (List Int)) {aC aD aH v1 : Value} (ay : aj bm 5 R aC x0.az) (aB : aj CZ 1 R aD x0.Out) (aF : aj bh 2 R aH x0.aO) (h1 : aj CZ 1 R v1 x1) {r : (aq × (List Int))} (hM : xF x0 x1 = some r) : aJ ag 102 #[.agg #[iv x0.aE, iv x0.aa.an, iv x0.aa.ax, aC, aD, aH], v1] R H (λ v R' H' => aN R R' ∧ H = H' ∧ ∃ ac0 ac1 ac2 E1 ac3 X2, aT R' [] E1 0 [iv r.1.aE, iv r.1.aa.an, iv r.1.aa.ax, ac0, ac1, ac2] ∧ aj bm 5 R' ac0 r.1.az ∧ aj CZ 1 R' ac1 r.1.Out ∧ aj bh 2 R' ac2 r.1.aO ∧ aT R' [] X2 0 [ac3] ∧ aj CZ 1 R' ac3 r.2 ∧ v = .func (.func 151) #[] #[.pointer (some ⟨E1, 0, none⟩), .pointer (some ⟨X2, 0, none⟩)]) := by
 unfold xF at hM
 refine aJ.aX Tryz.func102 rfl (n := 6) rfl rfl λ fr cs hk => ?_
 refine sg aS ?_
 refine bx λ n9 => ?_
 refine At.s rfl rfl (Ox.uk rfl rfl h1.cells rfl λ zf _ _ => ⟨_, (.put rfl), ?_⟩)
 refine vs 1 ?_
 refine nx aQ ?_
 refine At.s rfl rfl (Ox.makeFunc (vs := #[]) (us := #[_, _]) rfl rfl rfl rfl (.put rfl) ?_)
 refine vs 1 ?_
 refine er ?_
 refine At.nh (H2 := (zf, _) :: H) (λ X => (zf, _) :: X ++ (H)) (.cons .id) rfl (λ aHJ Ft Qu => ?_)
 replace ay := ay.mono Ft
 replace aB := aB.mono Ft
 replace aF := aF.mono Ft
 replace h1 := h1.mono Ft
 refine At.nh (H2 := H) (λ X => X ++ (H)) .id rfl (λ aHM Ci ale => ?_)
 replace ay := ay.mono Ci
 replace aB := aB.mono Ci
 replace aF := aF.mono Ci
 replace h1 := h1.mono Ci
 replace Qu := Qu.up (H := []) Ci
 obtain rfl := af hM
 exact rt Tryz.func102 (.tmp rfl .nil) sr (hk _ _ _ ⟨(Ft.trans Ci), rfl, aC, aD, aH, n9, v1, zf, Qu, ay, aB, aF, ale, h1, rfl⟩)
theorem Uo (x0 : cW) (x1 : (List Int)) {aC aD aH ie jq v1 : Value} (ay : aj bm 5 R aC x0.book.az) (aB : aj CZ 1 R aD x0.book.Out) (aF : aj bh 2 R aH x0.book.aO) (_ : aj fL 6 R ie x0.dR) (Fh : m5 R jq x0.nL) (h1 : aj CZ 1 R v1 x1) {r : Int} (hM : xO x0 x1 = some r) : aJ ag 94 #[.agg #[iv x0.book.aE, iv x0.book.aa.an, iv x0.book.aa.ax, aC, aD, aH, ie, jq], v1] R H (λ v R' H' => aN R R' ∧ H = H' ∧ v = iv r) := by
 unfold xO at hM
 refine aJ.aX Tryz.func94 rfl (n := 19) rfl rfl λ fr cs hk => ?_
 refine sg aQ ?_
 refine bx λ jV => ?_
 refine vs 1 ?_
 refine nx aQ ?_
 refine At.s rfl rfl (Ox.alloc (cs := #[iv 0]) rfl vN rfl λ gJ _ _ => ⟨_, (.put rfl), ?_⟩)
 refine At.s rfl rfl (Ox.cM (cs' := #[_]) rfl rfl rfl bg rfl .here rfl rfl rfl (.refl _) ?_)
 refine es ?_
 refine sg bn ?_
 refine vs 1 ?_
 refine lN [_, _, _, _, _, _] 0 6 ew z1 ?_
 refine vs 1 ?_
 obtain ⟨ei, uS, hM⟩ := ao hM
 refine At.cv Pp (T4 x0.book x1 ay aB aF h1 uS) ?_
 rintro _ Jk _ ⟨lf, rfl, aQa, aQb, aQc, aJL, aQd, aJM, auk, auh, aui, auj, aum, aul, rfl⟩
 replace Fh := Fh.mono lf
 refine er ?_
 refine At.block ?_
 refine At.HJ (A := (jR (IU Value.bool 5))) (λ y s => qO y ei.1 ei.2 s)  hM rfl PE rfl rfl rfl (λ (qZ : Int) R' T H' => aN Jk R' ∧ H' = (gJ, .cells #[iv qZ] 3) :: (jV, .cells #[iv x0.book.aE, iv x0.book.aa.an, iv x0.book.aa.ax, aC, aD, aH, ie, jq] 106) :: T)  (λ qZ R0 T0 H0 q => by obtain ⟨hR, rfl⟩ := q; exact ⟨(gJ, .cells #[iv qZ] 3) :: (jV, .cells #[iv x0.book.aE, iv x0.book.aa.an, iv x0.book.aa.ax, aC, aD, aH, ie, jq] 106) :: [], by simp, λ R1 T1 h => ⟨hR.trans h, by simp⟩⟩)  (λ v Inv Hy z hY hI hz => (Ui hY ei.1 ei.2 hI auk auh aui auj aum aul hz).mono λ _ _ _ h => ⟨h.1, h.2.1⟩) ⟨rr, rfl⟩ ?_ ?_
 ·rintro r30 qZ R30 aEL _ ⟨Kd, rfl⟩ hM
  refine At.inBlock ?_
  refine sg aQ ?_
  refine ld 0 bg z0 ?_
  refine vs 1 ?_
  refine er ?_
  obtain rfl := af hM
  exact At.qW (.there (.there .here)) Tryz.func94 (.tmp rfl .nil) (J.drop (so (so (so sr))) (hk _ _ _ ⟨(lf.trans Kd), rfl, rfl⟩))
 rintro aPD DN qZ R30 Xu H30 l30 abc aKF _ aK1 ⟨_, rfl, ⟨G5, rfl⟩⟩ ⟨Kd, rfl⟩ aos z30 hM ag6
 replace Fh := Fh.mono Kd
 refine At.rg aQ ?_
 refine At.s rfl rfl (Ox.alloc (cs := (List.toArray ([] ++ ([false, false, false, false, false].map Value.bool ++ [])))) rfl j7 rfl λ e6 _ _ => ⟨_, (.put rfl), ?_⟩)
 refine At.s rfl rfl (Ox.bp (cs' := _) rfl rfl rfl dc (by simp [G5]) (cr aW (cr (eM λ _ => rfl) aW)) .here (by simp) (eB (by simp [G5])) rfl (.refl _) ?_)
 refine er ?_
 refine At.beginRound rfl rfl (.there (.there (.there .here))) aos ?_
 refine At.block ?_
 refine At.draw (n := 7) (is := [0, 1, 2, 3, 4, 5, 6]) (many ((e6, .cells (List.toArray ([] ++ (DN.map Value.bool ++ []))) 112) :: (gJ, .cells #[iv qZ] 3) :: (jV, .cells #[iv x0.book.aE, iv x0.book.aa.an, iv x0.book.aa.ax, aC, aD, aH, ie, jq] 106) :: (l30, .loop { abc with state := .busy }) :: Xu) [(6, (e6, .cells (List.toArray ([] ++ (DN.map Value.bool ++ []))) 112) :: (jV, .cells #[iv x0.book.aE, iv x0.book.aa.an, iv x0.book.aa.ax, aC, aD, aH, ie, jq] 106) :: (l30, .loop { abc with state := .busy }) :: Xu)]) mixed rfl (by decide +kernel) rfl rfl ?_
 refine ts 0 [5, 6] rfl (cq rfl (dm (su (so (sk (so (so sr))))))) (su (so (sk (so (so sr))))) (λ R' H' hR hS => Ox.bV rfl rfl bg ((aT.box (hS _ z0)).one (j := 0) rfl) rfl (.one rfl) ⟨rfl, rfl, rfl⟩) ?_
 refine Any.vs 1 [1] rfl ?_
 refine ts 2 [4, 5, 6] rfl (cq rfl (dm (su (so (so (sk (so sr))))))) (su (so (so (sk (so sr))))) (λ R' H' hR hS => Ox.bV rfl rfl Ut ((aT.box (hS _ z0)).one (j := 7) rfl) rfl (.one rfl) ⟨rfl, rfl, rfl⟩) ?_
 refine ts 3 [4, 5, 6] rfl (cq rfl (dm (su (sk (so (so (so sr))))))) (su (sk (so (so (so sr))))) (λ R' H' hR hS => Ox.bP (vs := _) rfl rfl dc (by simp [G5]) ((aT.box (hS _ z0)).part (j := 0) (n := 5) (eE (by simp [G5]))) rfl (.one rfl) ⟨rfl, rfl, rfl⟩) ?_
 refine ts 4 [5, 6] rfl (cq rfl (dm (su (so (so (so (so sr))))))) (su (so (so (so (so sr))))) (λ R' H' hR hS => Ox.lookup (k := DN) rfl rfl rfl Up (Fh.mono hR) G5 rfl (.one rfl) ⟨rfl, rfl, rfl⟩) ?_
 refine ts 5 [6] rfl (cq rfl (dm (su (so (so (so (so sr))))))) (su (so (so (so (so sr))))) (λ R' H' hR hS => Ox.max (a := qZ) (l := [lM x0.nL DN]) rfl rfl rfl (.one rfl) ⟨rfl, rfl, rfl⟩) ?_
 refine Any.on 6 rfl rfl (aR.to (Ox.cM (cs' := #[_]) rfl rfl rfl bg rfl (.there .here) rfl rfl rfl (.refl _) ⟨rr, (bO rfl (su (sk (so sr)))), ?_⟩))
 refine Any.done ?_
 refine At.inBlock ?_
 exact At.drop (so sr) (ag6 _ (af hM).symm _ _ _ (rr) ⟨Kd, rfl⟩)
theorem afw (x0 : aq) {aC aD aH : Value} (hG : fM R) (hK : y6 ag) (ay : aj bm 5 R aC x0.az) (aB : aj CZ 1 R aD x0.Out) (aF : aj bh 2 R aH x0.aO) {r : ((List Int) × Int)} (hM : yA x0 = some r) : aJ ag 20 #[.agg #[iv x0.aE, iv x0.aa.an, iv x0.aa.ax, aC, aD, aH]] R H (λ v R' H' => aN R R' ∧ H = H' ∧ ∃ bU, aj CZ 1 R' bU r.1 ∧ v = .tuple #[bU, iv r.2]) := by
 unfold yA at hM
 refine aJ.aX Tryz.func20 rfl (n := 44) rfl rfl λ fr cs hk => ?_
 refine sg aS ?_
 refine bx λ cC => ?_
 refine vs 2 ?_
 refine nx eC ?_
 refine lN [_, _, _, _, _, _] 0 6 aU z0 ?_
 obtain ⟨di, ny, hM⟩ := ao hM
 refine At.cv oe (oI x0 (λ y => mY y) hG ay aB aF ⟨90, #[], #[], rfl, E8, λ R' H' hR hH y r va hA hr => by obtain ⟨_, rfl, ⟨pZ, oN, p5, gv, fN, gw, rfl⟩⟩ := hA; exact (Hu y gv fN gw hr).mono λ _ _ _ ⟨h1, h2, h3⟩ => ⟨h1 ▸ rr, h2.symm, h3⟩⟩ ny) ?_
 rintro _ aIM _ ⟨Qp, aFW, aA6, aA7, aA8, aA9, aBa, pD, pE, pF, qI, aaY, rfl, rfl⟩
 replace aB := aB.mono Qp
 refine vs 3 ?_
 refine At.s rfl rfl (Ox.alloc (cs := #[iv 0, iv 0, iv 0, .slice none 0 0, .slice none 0 0, .slice none 0 0, .slice none 0 0, .map none]) rfl mT rfl λ oa _ _ => ⟨_, (.put rfl), ?_⟩)
 refine At.s rfl rfl (Ox.bp (cs' := #[_, _, _, _, _, _, _, _]) rfl rfl rfl eK rfl (ak rfl (ak rfl (ak rfl (ak pD.one (ak pE.one (ak pF.one (ak qI.one (ak aaY.one aW)))))))) .here rfl rfl rfl (.refl _) ?_)
 refine vs 1 ?_
 refine es ?_
 refine sg aQ ?_
 refine vs 2 ?_
 refine er ?_
 refine sc hM (λ qD hM => ?_) (λ qD hM => ?_)
 ·refine sg aS ?_
  refine vs 3 ?_
  refine er ?_
  obtain rfl := af hM
  exact rt Tryz.func20 (.tmp rfl (.tmp rfl .nil)) (so (aP (so sr))) (hk _ _ _ ⟨Qp, rfl, .slice none 0 0, aj.nil, rfl⟩)
 refine sp ?_
 refine sg aQ ?_
 refine lN [_, _, _, _, _, _, _, _] 0 8 eK z0 ?_
 obtain ⟨jv, qK, hM⟩ := ao hM
 refine At.step rfl rfl rfl (Ox.dO rfl rfl rfl rfl J0 rfl rfl ((aJ.hole (G := (λ X => (oa, _) :: X ++ ((cC, _) :: H))) (.cons .id) (hK di.1 pD pE pF qI aaY qK)).mono ?_))
 rintro _ agP _ ⟨_, ⟨w5, zL, rfl, rfl⟩, rfl⟩
 replace aB := aB.mono w5
 replace pD := pD.mono w5
 replace pE := pE.mono w5
 replace pF := pF.mono w5
 replace qI := qI.mono w5
 refine ⟨_, (.put rfl), ?_⟩
 refine nx aL ?_
 refine vs 1 ?_
 refine es ?_
 refine sq ?_
 refine At.dw gd mixed ?_
 refine Any.vs 1 [0] rfl ?_
 refine tN 1 [_, _, _, _, _, _] 0 6 ew z0 ?_
 refine Any.tk 2 rfl pp (λ R' H' hR hS => Ox.qj (z := (List.toArray ([] ++ ([false, false, false, false, false].map Value.bool ++ [])))) rfl qg rfl (.one rfl) ⟨rfl, rfl, rfl⟩) ?_
 refine Any.vs 1 [3] rfl ?_
 refine tl 4 4 bL z1 ?_
 refine Any.vs 1 [8] rfl ?_
 obtain ⟨iK, uX, hM⟩ := ao hM
 refine Any.cv 5 fU (fX [false, false, false, false, false] x0.Out rfl aB.rd uX) ?_
 rintro _ _ _ ⟨rfl, rfl, awI, rfl⟩
 refine kp ?_
 obtain ⟨DV, ave, hM⟩ := ao hM
 refine Any.cv 6 PL (Un di.1.book iK pD pE pF awI ave) ?_
 rintro aBh Xr _ ⟨zD, rfl, _, KS, rfl⟩
 replace zL := zL.mono zD
 replace pD := pD.mono zD
 replace pE := pE.mono zD
 replace pF := pF.mono zD
 replace qI := qI.mono zD
 refine ⟨zD, ka, ?_⟩
 refine Any.tk 7 rfl pp (λ R' H' hR hS => Ox.tP (K := CZ) (k := 1) (xs := DV) rfl rfl (KS.mono hR) Tryz.underlying25 rfl (.one rfl) ⟨rfl, rfl, rfl⟩) ?_
 refine Any.done ?_
 refine At.block ?_
 refine At.c8 hM (λ (ri : ((List Int) × Int)) R' H' st' => aN Xr R' ∧ ∃ H7 yX, aZ CZ 1 3 R' H7 ri.1 yX ∧ H' = yX ++ ((oa, .cells #[iv di.1.book.aE, iv di.1.book.aa.an, iv di.1.book.aa.ax, aA6, aA7, aA8, aA9, aBa] 106) :: (cC, .cells #[iv x0.aE, iv x0.aa.an, iv x0.aa.ax, aC, aD, aH] 28) :: H) ∧ aK st' [(1, .pointer (some ⟨cC, 0, none⟩)), (4, .pointer (some ⟨oa, 0, none⟩)), (6, H7), (25, aBh), (26, iv (DV.length : Int)), (27, iv ri.2)]) (λ (LS : (List Int)) R' H' st' => aN Xr R' ∧ ∃ MA Oq, aZ CZ 1 3 R' MA LS Oq ∧ H' = Oq ++ (H) ∧ aK st' [(6, MA)]) 0 rfl ⟨rr, .slice none 0 0, [], aZ.nil, rfl, aA.sub ⟨rfl, rfl, rfl, rfl, rfl, rfl, trivial⟩⟩ ?_ ?_
 rotate_right
 ·rintro ri R70 H70 aOV ⟨uy, H7, yX, zP, rfl, aqZ⟩ iJ hM XL ajI
  refine At.sub aqZ ?_
  replace zL := zL.mono uy
  replace pD := pD.mono uy
  replace pE := pE.mono uy
  replace pF := pF.mono uy
  replace qI := qI.mono uy
  replace KS := KS.mono uy
  refine sg aL ?_
  refine vs 1 ?_
  refine es ?_
  refine sc hM (λ xh hM => ?_) (λ xh hM => ?_)
  ·refine sp ?_
   refine sq ?_
   refine At.block ?_
   refine sg aS ?_
   obtain ⟨lR, GU, hM⟩ := ao hM
   obtain ⟨aKv, aNr, _, rfl, amj, aof⟩ := KS.elem cL GU
   refine At.s rfl rfl (Ox.bq rfl rfl rfl aof rfl (.put rfl) ?_)
   refine At.ld bg (amj.any.one (j := 0) rfl) ?_
   refine vs 1 ?_
   refine es ?_
   refine At.dw dY mixed ?_
   refine tN 0 [_, _, _, _, _, _, _, _] 0 8 eK (List.mem_append_right _ z0) ?_
   refine Any.vs 2 [1, 4] rfl ?_
   refine tl 5 0 bg (List.mem_append_right _ z1) ?_
   refine Any.on 2 rfl rfl (aR.to (Ox.buildSlice (cells := #[_]) rfl ck rfl (by decide) cS (bf rfl rfl rfl rfl aY) rfl λ qi _ _ => ⟨_, (.put rfl), ⟨rr, (ku (so sr)), ?_⟩⟩))
   refine Any.ql (K := CZ) (kk := 1) (H2 := yX ++ ((oa, _) :: (cC, _) :: H)) (λ X => X ++ (yX ++ ((oa, _) :: (cC, _) :: H))) .id rfl (aG.le (aG.cons (x := lR) rfl rfl aG.nil) rfl) rfl (by decide) (by decide) (λ _ => pp) (λ aH5 wY amU => ?_)
   replace zL := zL.mono wY
   replace zP := zP.mono wY
   replace pD := pD.mono wY
   replace pE := pE.mono wY
   replace pF := pF.mono wY
   replace qI := qI.mono wY
   obtain ⟨kV, Bw, hM⟩ := ao hM
   refine Any.cv 3 PM (Uo (⟨⟨di.1.book.aE, ⟨di.1.book.aa.an, di.1.book.aa.ax⟩, di.1.book.az, di.1.book.Out, di.1.book.aO⟩, di.1.dR, jv⟩ : cW) [lR] pD pE pF qI zL amU Bw) ?_
   rintro _ ae5 _ ⟨nS, rfl, rfl⟩
   replace zP := zP.mono nS
   refine ⟨nS, ka, ?_⟩
   refine Any.vs 1 [6] rfl ?_
   refine Any.done ?_
   refine sc hM (λ Gx hM => ?_) (λ Gx hM => ?_)
   ·refine At.rg bT ?_
    refine vs 2 ?_
    refine At.s rfl rfl (Ox.buildSlice (cells := #[_]) rfl ck rfl (by decide) cS (bf rfl rfl rfl rfl aY) rfl λ b99 _ _ => ⟨_, (.put rfl), ?_⟩)
    obtain ⟨vK, GC, hM⟩ := ao hM
    refine At.s rfl rfl (Ox.append (K := CZ) (λ X => (b99, _) :: X ++ ((oa, _) :: (cC, _) :: H)) rfl rfl rfl cR Tryz.underlying25 (by simp) (.cons .id) zP (cE.lit z0 (aG.le (aG.cons (x := lR) rfl rfl aG.nil) rfl) rfl) GC rfl λ aAm af8 ao6 => ⟨_, (.put rfl), ?_⟩)
    refine vs 1 ?_
    refine er ?_
    refine At.inBlock ?_
    refine At.rg aQ ?_
    refine vs 2 ?_
    refine er ?_
    exact At.drop (so sr) (XL _ (af hM).symm _ _ _ ⟨((uy.trans wY).trans nS), aAm, af8, ao6, rfl, aA.sub ⟨rfl, rfl, rfl, rfl, rfl, rfl, trivial⟩⟩)
   refine sp ?_
   refine At.inBlock ?_
   refine At.rg aQ ?_
   refine vs 2 ?_
   refine er ?_
   exact XL _ (af hM).symm _ _ _ ⟨((uy.trans wY).trans nS), H7, yX, zP, rfl, aA.sub ⟨rfl, rfl, rfl, rfl, rfl, rfl, trivial⟩⟩
  exact At.exit rfl (At.drop (eD (so (so sr))) (ajI _ (af hM).symm _ _ _ ⟨uy, H7, yX, zP, rfl, aA.sub ⟨rfl, trivial⟩⟩))
 rintro LS aG2 aFc aOW ⟨akK, MA, Oq, aoU, rfl, aq0⟩ hM
 refine At.sub aq0 ?_
 refine sg aS ?_
 refine vs 3 ?_
 refine er ?_
 refine At.dB (H2 := H) (λ X => X ++ (H)) .id rfl aoU (λ aHy akR ams => ?_)
 obtain rfl := af hM
 exact rt Tryz.func20 (.tmp rfl (.tmp rfl .nil)) sr (hk _ _ _ ⟨((((Qp.trans w5).trans zD).trans akK).trans akR), rfl, MA, ams, rfl⟩)
end
end Go.Proofs.YtabamagholjdcaaGreatDoor
