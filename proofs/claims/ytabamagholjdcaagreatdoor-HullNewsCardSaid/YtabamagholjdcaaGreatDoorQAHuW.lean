/- A worker of hull.reckon: the walk of it. -/
import Derived.Test.YtabamagholjdcaaGreatDoorQAHuP1
import Derived.Test.YtabamagholjdcaaGreatDoorQALgD
namespace Go.Proofs.YtabamagholjdcaaGreatDoor
open Go.Lg Go.Proofs
set_option maxRecDepth 100000
set_option maxHeartbeats 4000000
section
variable {B : Base} {main : Bool} {ag : Jd Tryz.prog B main} {R : aI} {H : au}
theorem aBv {cf cd : Nat} (x0 : cW) (x1 : Int) {aC aD aH ie jq : Value} {b0 b1 b2 b3 : Nat} (hc0 : aT R [] b0 0 [iv x0.book.aE, iv x0.book.aa.an, iv x0.book.aa.ax, aC, aD, aH, ie, jq]) (ay : aj bm 5 R aC x0.book.az) (aB : aj (CI .i64) 1 R aD x0.book.Out) (aF : aj bh 2 R aH x0.book.aO) (lZ : aj fL 6 R ie x0.dR) (cN : aT R [] b1 0 [iv x1]) (bz : aT R [] b2 0 [.chan (some cf)]) (bK : aT R [] b3 0 [.chan (some cd)]) {r : (List Bool × Int)} (hM : yx x0 x1 = some r) : Own Tryz.prog B false (wC Tryz.prog B cf cd (vp r)) R [] (br (Frame.enter Tryz.prog 147 #[.pointer (some ⟨b0, 0, none⟩), .pointer (some ⟨b1, 0, none⟩), .pointer (some ⟨b2, 0, none⟩), .pointer (some ⟨b3, 0, none⟩)] .deferred) [nM Tryz.prog]) := by
 unfold yx at hM
 refine abZ (args := [.pointer (some ⟨b0, 0, none⟩), .pointer (some ⟨b1, 0, none⟩), .pointer (some ⟨b2, 0, none⟩), .pointer (some ⟨b3, 0, none⟩)]) Tryz.func147 rfl (n := 49) rfl rfl ?_
 refine At.seq ?_
 refine At.rg aL ?_
 refine At.s rfl rfl (Ox.alloc (cs := (List.toArray ([] ++ ([false, false, false, false, false].map Value.bool ++ [])))) rfl j7 rfl λ cn _ _ => ⟨_, (.put rfl), ?_⟩)
 refine At.dU ?_
 refine At.seq ?_
 refine At.seq ?_
 refine At.rg dy ?_
 refine At.vs 3 rfl rfl ?_
 refine At.ld cK ((hc0.sub (λ _ h => (List.Sublist.subset (List.Sublist.cons _ (List.Sublist.refl _))) h)).one (j := 3) rfl) ?_
 refine At.s rfl rfl (Ox.tP (K := bm) (k := 5) (xs := x0.book.az) rfl rfl ay Tryz.underlying24 rfl (.put rfl) ?_)
 refine At.vs 1 rfl rfl ?_
 refine At.dU ?_
 refine At.block ?_
 refine At.c8 hM (λ (oK : (Int × (List Bool))) R' H' st' => R = R' ∧ oK.2.length = 5 ∧ H' = (cn, .cells (List.toArray ([] ++ (oK.2.map Value.bool ++ []))) 112) :: [] ∧ aK st' [(0, .pointer (some ⟨b0, 0, none⟩)), (1, .pointer (some ⟨b1, 0, none⟩)), (2, .pointer (some ⟨b2, 0, none⟩)), (3, .pointer (some ⟨b3, 0, none⟩)), (4, .pointer (some ⟨cn, 0, none⟩)), (14, iv (x0.book.az.length : Int)), (15, iv oK.1)]) (λ (vk : (List Bool)) R' H' st' => R = R' ∧ vk.length = 5 ∧ H' = (cn, .cells (List.toArray ([] ++ (vk.map Value.bool ++ []))) 112) :: [] ∧ aK st' [(0, .pointer (some ⟨b0, 0, none⟩)), (2, .pointer (some ⟨b2, 0, none⟩)), (3, .pointer (some ⟨b3, 0, none⟩)), (4, .pointer (some ⟨cn, 0, none⟩))]) 0 rfl ⟨rfl, rfl, rfl, aA.sub ⟨rfl, rfl, rfl, rfl, rfl, rfl, rfl, trivial⟩⟩ ?_ ?_
 rotate_right
 ·rintro oK R21 H21 aN1 ⟨rfl, TO, rfl, ap5⟩ cA hM ag1 ajl
  refine At.sub ap5 ?_
  refine At.seq ?_
  refine At.rg aL ?_
  refine At.vs 1 rfl rfl ?_
  refine At.dU ?_
  refine At.seq ?_
  refine bA hM (λ Ac hM => At.B4 rfl Ac ?_) (λ Ac hM => At.B3 rfl Ac ?_)
  ·refine At.skip ?_
   refine At.seq ?_
   refine At.block ?_
   refine At.seq ?_
   refine At.rg aQ ?_
   refine At.vs 2 rfl rfl ?_
   refine At.dU ?_
   obtain ⟨js, xo, hM⟩ := ao hM
   obtain ⟨eI, uU, hM⟩ := ao hM
   obtain ⟨cU, GJ, hM⟩ := ao hM
   refine At.rg eC ?_
   refine At.vs 1 rfl rfl ?_
   refine At.ld bg ((cN.sub (λ _ h => (List.Sublist.subset (List.Sublist.cons _ (List.Sublist.refl _))) h)).one (j := 0) rfl) ?_
   refine At.vs 1 rfl rfl ?_
   refine At.s rfl rfl (Ox.shr rfl rfl rfl xo rfl (.put rfl) ?_)
   refine At.s rfl rfl (Ox.bits rfl rfl rfl uU rfl (.put rfl) ?_)
   refine At.vs 1 rfl rfl ?_
   refine At.s rfl rfl (Ox.bq rfl rfl rfl (sW BW TO GJ) rfl (.put rfl) ?_)
   refine At.s rfl rfl (Ox.cM rfl rfl rfl iS rfl .here (OY GJ rfl) (OZ GJ rfl) rfl (.refl _) ?_)
   refine At.dU ?_
   refine At.inBlock ?_
   refine At.rg aQ ?_
   refine At.vs 2 rfl rfl ?_
   refine At.dU ?_
   exact ag1 _ (af hM).symm _ _ _ ⟨rfl, ((List.length_set).trans TO), rfl, aA.sub ⟨rfl, rfl, rfl, rfl, rfl, rfl, rfl, trivial⟩⟩
  exact At.exit rfl (ajl _ (af hM).symm _ _ _ ⟨rfl, TO, rfl, aA.sub ⟨rfl, rfl, rfl, rfl, trivial⟩⟩)
 rintro vk aGt aEy aN2 ⟨rfl, CD, rfl, ap6⟩ hM
 refine At.sub ap6 ?_
 refine At.seq ?_
 refine At.rg aL ?_
 refine At.vs 1 rfl rfl ?_
 refine At.dU ?_
 refine At.seq ?_
 refine At.seq ?_
 refine At.rg bn ?_
 refine At.vs 1 rfl rfl ?_
 refine At.ld qT ((hc0.sub (λ _ h => (List.Sublist.subset (List.Sublist.cons _ (List.Sublist.refl _))) h)).one (j := 6) rfl) ?_
 refine At.s rfl rfl (Ox.tP (K := fL) (k := 6) (xs := x0.dR) rfl rfl lZ Tryz.underlying103 rfl (.put rfl) ?_)
 refine At.vs 1 rfl rfl ?_
 refine At.dU ?_
 refine At.block ?_
 refine At.c8 hM (λ (iG : (Int × Int)) R' H' st' => R = R' ∧ H' = (cn, .cells (List.toArray ([] ++ (vk.map Value.bool ++ []))) 112) :: [] ∧ aK st' [(0, .pointer (some ⟨b0, 0, none⟩)), (2, .pointer (some ⟨b2, 0, none⟩)), (3, .pointer (some ⟨b3, 0, none⟩)), (4, .pointer (some ⟨cn, 0, none⟩)), (6, iv iG.1), (27, ie), (28, iv (x0.dR.length : Int)), (29, iv iG.2)]) (λ (s7 : Int) R' H' st' => R = R' ∧ H' = (cn, .cells (List.toArray ([] ++ (vk.map Value.bool ++ []))) 112) :: [] ∧ aK st' [(2, .pointer (some ⟨b2, 0, none⟩)), (3, .pointer (some ⟨b3, 0, none⟩)), (4, .pointer (some ⟨cn, 0, none⟩)), (6, iv s7)]) 2 rfl ⟨rfl, rfl, aA.sub ⟨rfl, rfl, rfl, rfl, rfl, rfl, rfl, rfl, trivial⟩⟩ ?_ ?_
 rotate_right
 ·rintro iG R40 H40 azI ⟨rfl, rfl, RL⟩ gP hM OQ PS
  refine At.sub RL ?_
  refine At.seq ?_
  refine At.rg aL ?_
  refine At.vs 1 rfl rfl ?_
  refine At.dU ?_
  refine At.seq ?_
  refine bA hM (λ qC hM => At.B4 rfl qC ?_) (λ qC hM => At.B3 rfl qC ?_)
  ·refine At.skip ?_
   refine At.seq ?_
   refine At.block ?_
   refine At.seq ?_
   obtain ⟨dX, mG, hM⟩ := ao hM
   refine At.rg bn ?_
   obtain ⟨aJ4, aM3, _, ⟨AA, rfl⟩, alZ, anQ⟩ := lZ.elem L7 mG
   refine At.s rfl rfl (Ox.bq rfl rfl rfl anQ rfl (.put rfl) ?_)
   refine At.s rfl rfl (Ox.bP (vs := _) rfl rfl eP (by simp [AA]) (alZ.any.part (j := 0) (n := 6) (eE (by simp [AA]))) rfl (.put rfl) ?_)
   refine At.s rfl rfl (Ox.alloc (cs := (List.toArray ([iv 0] ++ ([0, 0, 0, 0, 0].map (Value.int .i64) ++ [])))) rfl yo rfl λ b57 _ _ => ⟨_, (.put rfl), ?_⟩)
   refine At.s rfl rfl (Ox.bp (cs' := _) rfl rfl rfl eP (by simp [AA]) (cr (ak rfl aW) (cr (eM λ _ => rfl) aW)) .here (by simp) (eB (by simp [AA])) rfl (.refl _) ?_)
   refine At.dU ?_
   refine At.seq ?_
   obtain ⟨iI, qH, hM⟩ := ao hM
   refine At.rg dy ?_
   refine At.vs 1 rfl rfl ?_
   refine At.s rfl rfl (Ox.bP (vs := [_, _, _, _, _, _]) rfl rfl ew rfl ((hc0.sub (λ _ h => (List.Sublist.subset (List.Sublist.cons _ (List.Sublist.cons _ (List.Sublist.refl _)))) h)).part (j := 0) (n := 6) rfl) rfl (.put rfl) ?_)
   refine At.s rfl rfl (Ox.bP (vs := _) rfl rfl eP (by simp [AA]) ((aT.box (.head _)).part (j := 0) (n := 6) (eE (by simp [AA]))) rfl (.put rfl) ?_)
   refine At.s rfl rfl (Ox.bP (vs := _) rfl rfl dc (by simp [CD]) ((aT.box (.tail _ (.head _))).part (j := 0) (n := 5) (eE (by simp [CD]))) rfl (.put rfl) ?_)
   refine At.cv wO (xG x0.book dX vk ay aB aF AA CD qH) ?_
   rintro _ _ _ ⟨rfl, rfl, rfl⟩
   refine At.vs 1 rfl rfl ?_
   refine At.dU ?_
   refine At.rg dy ?_
   refine At.vs 3 rfl rfl ?_
   refine At.s rfl rfl (Ox.Lp rfl rfl rfl (.put rfl) ?_)
   refine At.s rfl rfl (Ox.max (a := iG.1) (l := [iI, i64 (0 - iI)]) rfl rfl rfl (.put rfl) ?_)
   refine At.vs 1 rfl rfl ?_
   refine At.dU ?_
   refine At.inBlock ?_
   refine At.rg aQ ?_
   refine At.vs 2 rfl rfl ?_
   refine At.dU ?_
   exact At.drop (List.Sublist.cons _ (List.Sublist.refl _)) (OQ _ (af hM).symm _ _ _ ⟨rfl, rfl, aA.sub ⟨rfl, rfl, rfl, rfl, rfl, rfl, rfl, rfl, trivial⟩⟩)
  exact At.exit rfl (PS _ (af hM).symm _ _ _ ⟨rfl, rfl, aA.sub ⟨rfl, rfl, rfl, rfl, trivial⟩⟩)
 rintro s7 agA afZ azJ ⟨rfl, rfl, RM⟩ hM
 refine At.sub RM ?_
 refine At.seq ?_
 refine At.rg bT ?_
 refine At.ld Lr ((bz.sub (λ _ h => (List.Sublist.subset (List.Sublist.cons _ (List.Sublist.refl _))) h)).one (j := 0) rfl) ?_
 refine At.s rfl rfl (Ox.bP (vs := _) rfl rfl dc (by simp [CD]) ((aT.box (.head _)).part (j := 0) (n := 5) (eE (by simp [CD]))) rfl (.put rfl) ?_)
 refine At.vs 1 rfl rfl ?_
 obtain ⟨a0, a1, a2, a3, a4, rfl⟩ := Ff CD
 refine At.cF rfl rfl rfl (Ox.build (cells := #[_, _, _, _, _, _]) rfl az1 rfl rfl rfl (.put rfl) ?_)
 obtain rfl := af hM
 refine λ tmps ht => Own.stop _ _ _ _ ⟨_, acI rfl rfl rfl rfl rfl rfl ht ?_⟩
 show At (qU Tryz.prog B false (wD Tryz.prog B cd)) _ _ _ _ _
 refine At.dU ?_
 refine At.rg aQ ?_
 refine At.ld Uu ((bK.sub (λ _ h => (List.Sublist.subset (List.Sublist.cons _ (List.Sublist.refl _))) h)).one (j := 0) rfl) ?_
 exact λ tmps ht => Own.stop _ _ _ _ ⟨_, acI rfl rfl rfl rfl rfl rfl ht λ _ _ => ⟨5, ace Tryz.func147 rfl⟩⟩
end
end Go.Proofs.YtabamagholjdcaaGreatDoor
